import PyProof.Rows.All
import Wide.All
import OpenK.KMake
import OpenK.KTop
import Wide.FinOn
import Open.Seg
import Open.Boot
import Lean
import PySem.Challenge.RW_og0238_01
set_option Elab.async false
set_option linter.all false
set_option genSizeOf false
set_option genInjectivity true

section
open PySem PyProof.Rows
set_option Elab.async false
set_option linter.unusedVariables false
set_option linter.unusedSimpArgs false
namespace Mine


theorem hide {G : Prop} (h : ∀ X : Prop, (G → X) → X) : G := h G id
noncomputable abbrev lob (vs : Array Value) (n : Nat) : Obj := { cls := .type "list", data := .seq vs n }
noncomputable abbrev tob (vs : Array Value) (n : Nat) : Obj := { cls := .type "tuple", data := .seq vs n }

mutual
inductive Rd (P : Addr → Prop) (h : Heap) : Value → PyData → Prop
  | none : Rd P h .none .none
  | bool (b : Bool) : Rd P h (.bool b) (.bool b)
  | int (i : Int) (t : Tok) : Rd P h (.int i t) (.int i)
  | list {a : Addr} {vs : Array Value} {n : Nat} {xs : List PyData} : P a → h.get? a = some (lob vs n) → vs.size ≤ 1000000 → RdAll P h vs.toList xs → Rd P h (.ref a) (.list xs)
  | tuple {a : Addr} {vs : Array Value} {n : Nat} {xs : List PyData} : h.get? a = some (tob vs n) → vs.size ≤ 1000000 → RdAll P h vs.toList xs → Rd P h (.ref a) (.tuple xs)
inductive RdAll (P : Addr → Prop) (h : Heap) : List Value → List PyData → Prop
  | nil : RdAll P h [] []
  | cons {v : Value} {vs : List Value} {d : PyData} {ds : List PyData} : Rd P h v d → RdAll P h vs ds → RdAll P h (v :: vs) (d :: ds)
end

/-- what is visible stands in the second heap as it stood -/
noncomputable def Same (P : Addr → Prop) (h h' : Heap) : Prop :=
  ∀ a o, h.get? a = some o → (P a ∨ ∃ vs n, o = tob vs n) → h'.get? a = some o
theorem Same.of_le {P : Addr → Prop} {h h' : Heap} (k : ∀ b o, h.get? b = some o → h'.get? b = some o) : Same P h h' := fun a o e _ => k a o e

mutual
theorem Rd.mono {P P' : Addr → Prop} {h h' : Heap} (hp : ∀ a o, h.get? a = some o → P a → P' a) (hs : Same P h h') : ∀ {v : Value} {d : PyData}, Rd P h v d → Rd P' h' v d
  | _, _, .none => .none
  | _, _, .bool b => .bool b
  | _, _, .int i t => .int i t
  | _, _, .list p e z r => .list (hp _ _ e p) (hs _ _ e (.inl p)) z (RdAll.mono hp hs r)
  | _, _, .tuple e z r => .tuple (hs _ _ e (.inr ⟨_, _, rfl⟩)) z (RdAll.mono hp hs r)
theorem RdAll.mono {P P' : Addr → Prop} {h h' : Heap} (hp : ∀ a o, h.get? a = some o → P a → P' a) (hs : Same P h h') : ∀ {vs : List Value} {ds : List PyData}, RdAll P h vs ds → RdAll P' h' vs ds
  | _, _, .nil => .nil
  | _, _, .cons r s => .cons (Rd.mono hp hs r) (RdAll.mono hp hs s)
end

mutual
/-- visible lists and any tuple alone are looked at -/
theorem Rd.frame {P : Addr → Prop} {h h' : Heap} (hs : ∀ a o, h.get? a = some o → ((P a ∧ ∃ vs n, o = lob vs n) ∨ ∃ vs n, o = tob vs n) → h'.get? a = some o) : ∀ {v : Value} {d : PyData}, Rd P h v d → Rd P h' v d
  | _, _, .none => .none
  | _, _, .bool b => .bool b
  | _, _, .int i t => .int i t
  | _, _, .list p e z r => .list p (hs _ _ e (.inl ⟨p, _, _, rfl⟩)) z (RdAll.frame hs r)
  | _, _, .tuple e z r => .tuple (hs _ _ e (.inr ⟨_, _, rfl⟩)) z (RdAll.frame hs r)
theorem RdAll.frame {P : Addr → Prop} {h h' : Heap} (hs : ∀ a o, h.get? a = some o → ((P a ∧ ∃ vs n, o = lob vs n) ∨ ∃ vs n, o = tob vs n) → h'.get? a = some o) : ∀ {vs : List Value} {ds : List PyData}, RdAll P h vs ds → RdAll P h' vs ds
  | _, _, .nil => .nil
  | _, _, .cons r s => .cons (Rd.frame hs r) (RdAll.frame hs s)
end
noncomputable def NotSeq (o : Obj) : Prop := (∀ vs n, o ≠ lob vs n) ∧ ∀ vs n, o ≠ tob vs n
theorem notSeq_cls {o : Obj} {T : String} (h : o.cls = .type T) (h1 : T ≠ "list") (h2 : T ≠ "tuple") : NotSeq o :=
  ⟨fun vs n e => by subst e; exact h1 (by injection h with h; exact h.symm), fun vs n e => by subst e; exact h2 (by injection h with h; exact h.symm)⟩
/-- an iterator's object -/
noncomputable def ItO (o : Obj) : Prop := ∃ T, o.cls = .type T ∧ T ≠ "list" ∧ T ≠ "tuple" ∧ T ≠ "dict"
theorem ItO.ns {o : Obj} (x : ItO o) : NotSeq o := let ⟨_, h, h1, h2, _⟩ := x; notSeq_cls h h1 h2
theorem notSeq_dict {o : Obj} {es ep} (h : o.data = .dict es ep) : NotSeq o :=
  ⟨fun vs n e => (by subst e; cases h), fun vs n e => (by subst e; cases h)⟩
theorem notSeq_cell {o : Obj} {v} (h : o.data = .cell v) : NotSeq o :=
  ⟨fun vs n e => (by subst e; cases h), fun vs n e => (by subst e; cases h)⟩

mutual
/-- lists and tuples alone are looked at -/
theorem Rd.lists {P : Addr → Prop} {h h' : Heap} (hs : ∀ a o, h.get? a = some o → ((∃ vs n, o = lob vs n) ∨ ∃ vs n, o = tob vs n) → h'.get? a = some o) : ∀ {v : Value} {d : PyData}, Rd P h v d → Rd P h' v d
  | _, _, .none => .none
  | _, _, .bool b => .bool b
  | _, _, .int i t => .int i t
  | _, _, .list p e z r => .list p (hs _ _ e (.inl ⟨_, _, rfl⟩)) z (RdAll.lists hs r)
  | _, _, .tuple e z r => .tuple (hs _ _ e (.inr ⟨_, _, rfl⟩)) z (RdAll.lists hs r)
theorem RdAll.lists {P : Addr → Prop} {h h' : Heap} (hs : ∀ a o, h.get? a = some o → ((∃ vs n, o = lob vs n) ∨ ∃ vs n, o = tob vs n) → h'.get? a = some o) : ∀ {vs : List Value} {ds : List PyData}, RdAll P h vs ds → RdAll P h' vs ds
  | _, _, .nil => .nil
  | _, _, .cons r s => .cons (Rd.lists hs r) (RdAll.lists hs s)
end

mutual
/-- no list within -/
noncomputable def flat : PyData → Bool
  | .none | .bool _ | .int _ => true
  | .tuple xs => flatAll xs
  | .str _ | .list _ | .dict _ => false
noncomputable def flatAll : List PyData → Bool
  | [] => true
  | x :: xs => flat x && flatAll xs
end

mutual
theorem Rd.flat {P P' : Addr → Prop} {h : Heap} : ∀ {v : Value} {d : PyData}, Rd P h v d → flat d = true → Rd P' h v d
  | _, _, .none, _ => .none
  | _, _, .bool b, _ => .bool b
  | _, _, .int i t, _ => .int i t
  | _, _, .list _ _ _ _, e => by simp [Mine.flat] at e
  | _, _, .tuple e z r, f => .tuple e z (RdAll.flat r (by simpa [Mine.flat] using f))
theorem RdAll.flat {P P' : Addr → Prop} {h : Heap} : ∀ {vs : List Value} {ds : List PyData}, RdAll P h vs ds → flatAll ds = true → RdAll P' h vs ds
  | _, _, .nil, _ => .nil
  | _, _, .cons (d := d) (ds := ds) r s, f => by
    have f' : Mine.flat d = true ∧ flatAll ds = true := by simpa [flatAll] using f
    exact .cons (Rd.flat r f'.1) (RdAll.flat s f'.2)
end

mutual
theorem Rd.reads {P : Addr → Prop} {h : Heap} : ∀ {v : Value} {d : PyData}, Rd P h v d → ∃ as, Reads h v d as
  | _, _, .none => ⟨_, .none⟩
  | _, _, .bool b => ⟨_, .bool b⟩
  | _, _, .int i t => ⟨_, .int i t⟩
  | _, _, .list _ e _ r => let ⟨_, q⟩ := RdAll.reads r; ⟨_, .list e rfl rfl q⟩
  | _, _, .tuple e _ r => let ⟨_, q⟩ := RdAll.reads r; ⟨_, .tuple e rfl rfl q⟩
theorem RdAll.reads {P : Addr → Prop} {h : Heap} : ∀ {vs : List Value} {ds : List PyData}, RdAll P h vs ds → ∃ as, ReadsAll h vs ds as
  | _, _, .nil => ⟨_, .nil⟩
  | _, _, .cons r s => let ⟨_, q⟩ := Rd.reads r; let ⟨_, q'⟩ := RdAll.reads s; ⟨_, .cons q q'⟩
end
mutual
theorem Rd.canLay {P : Addr → Prop} {h : Heap} : ∀ {v : Value} {d : PyData}, Rd P h v d → d.canLay0 = true
  | _, _, .none => rfl
  | _, _, .bool _ => rfl
  | _, _, .int _ _ => rfl
  | _, _, .list _ _ _ r => by rw [PyData.canLay0]; exact RdAll.canLay r
  | _, _, .tuple _ _ r => by rw [PyData.canLay0]; exact RdAll.canLay r
theorem RdAll.canLay {P : Addr → Prop} {h : Heap} : ∀ {vs : List Value} {ds : List PyData}, RdAll P h vs ds → PyData.canLayAll0 ds = true
  | _, _, .nil => rfl
  | _, _, .cons r s => by rw [PyData.canLayAll0, Rd.canLay r, RdAll.canLay s]; rfl
end

section
variable {P : Addr → Prop} {h : Heap} {v : Value} {d : PyData} {vs ws : List Value} {ds es : List PyData}
theorem RdAll.length (r : RdAll P h vs ds) : vs.length = ds.length := by
  induction vs generalizing ds with
  | nil => cases r; rfl
  | cons v vs ih => cases r with | cons _ r => rw [List.length_cons, List.length_cons, ih r]
theorem RdAll.append (r : RdAll P h vs ds) (q : RdAll P h ws es) : RdAll P h (vs ++ ws) (ds ++ es) := by
  induction vs generalizing ds with
  | nil => cases r; exact q
  | cons v vs ih => cases r with | cons r s => exact .cons r (ih s)
theorem RdAll.get (r : RdAll P h vs ds) {k : Nat} {d : PyData} (e : ds[k]? = some d) : ∃ v, vs[k]? = some v ∧ Rd P h v d := by
  induction vs generalizing ds k with
  | nil => cases r; simp at e
  | cons v vs ih =>
    cases r with
    | cons r s =>
      cases k with
      | zero => simp at e; subst e; exact ⟨v, rfl, r⟩
      | succ k => simp at e; simpa using ih s e
theorem RdAll.getv (r : RdAll P h vs ds) {k : Nat} {v : Value} (e : vs[k]? = some v) : ∃ d, ds[k]? = some d ∧ Rd P h v d := by
  induction vs generalizing ds k with
  | nil => simp at e
  | cons u vs ih =>
    cases r with
    | cons r s =>
      cases k with
      | zero => simp at e; subst e; exact ⟨_, rfl, r⟩
      | succ k => simp at e; simpa using ih s e
theorem RdAll.take (r : RdAll P h vs ds) (k : Nat) : RdAll P h (vs.take k) (ds.take k) := by
  induction vs generalizing ds k with
  | nil => cases r; simp; exact .nil
  | cons v vs ih => cases r with | cons r s => cases k with | zero => simp; exact .nil | succ k => simp; exact .cons r (ih s k)
theorem RdAll.drop (r : RdAll P h vs ds) (k : Nat) : RdAll P h (vs.drop k) (ds.drop k) := by
  induction vs generalizing ds k with
  | nil => cases r; simp; exact .nil
  | cons v vs ih => cases r with | cons r s => cases k with | zero => simp; exact .cons r s | succ k => simp; exact ih s k
theorem RdAll.reverse (r : RdAll P h vs ds) : RdAll P h vs.reverse ds.reverse := by
  induction vs generalizing ds with
  | nil => cases r; simp; exact .nil
  | cons v vs ih => cases r with | cons r s => simp; exact (ih s).append (.cons r .nil)
theorem RdAll.set (r : RdAll P h vs ds) (q : Rd P h v d) (k : Nat) : RdAll P h (vs.set k v) (ds.set k d) := by
  induction vs generalizing ds k with
  | nil => cases r; simp; exact .nil
  | cons u vs ih => cases r with | cons r s => cases k with | zero => simp; exact .cons q s | succ k => simp; exact .cons r (ih s k)
theorem RdAll.of_forall (hl : vs.length = ds.length) (hk : ∀ (k : Nat) (v : Value) (d : PyData), vs[k]? = some v → ds[k]? = some d → Rd P h v d) : RdAll P h vs ds := by
  induction vs generalizing ds with
  | nil => cases ds with | nil => exact .nil | cons _ _ => cases hl
  | cons v vs ih => cases ds with
    | nil => cases hl
    | cons d ds => exact .cons (hk 0 v d rfl rfl) (ih (Nat.succ.inj hl) fun k v d e1 e2 => hk (k + 1) v d (by simpa using e1) (by simpa using e2))
end

/-- a value of the little language: a datum, or the table of widths -/
inductive V where
  | dat (d : PyData)
  | tab (w m j : PyData)

noncomputable def Up (P : Addr → Prop) (s : Shared) : Addr → Prop := fun a => P a ∨ s.heap.get? a = none

end Mine
end

section
open PySem PyProof.Rows
set_option Elab.async false
set_option linter.unusedVariables false
set_option linter.unusedSimpArgs false
namespace Mine

inductive BO where | add | sub | mul | fdiv | mod | pow
inductive CO where | lt | le | gt | eq | ne | isin | notin

inductive ME where
  | lit (d : PyData)
  | var (k : Nat)
  | bin (op : BO) (a b : ME)
  | neg (a : ME)
  | not (a : ME)
  | and (es : List ME)
  | or (es : List ME)
  | ite (t a b : ME)
  | list (es : List ME)
  | tup (es : List ME)
  | cmp (op : CO) (a b : ME)
  | cmp2 (op1 op2 : CO) (a b c : ME)
  | idx (a i : ME)
  | sl (a lo hi : ME)
  | rev (a : ME)
  | call (f : Nat) (args : List ME)
  | meth (f : Nat) (k : Nat) (args : List ME)
  | attr (i : Nat) (k : Nat)
  | len (a : ME)
  | sum (a : ME)
  | sumL (a : ME)
  | toInt (a : ME)
  | toList (a : ME)
  | toTup (a : ME)
  | comp (k : Nat) (elt src : ME) (test : List ME)
  | rng (a : ME)

noncomputable def small (i : Int) : Bool := decide (-1000000000 ≤ i) && decide (i ≤ 1000000000)

noncomputable def asI : PyData → Option Int
  | .int i => some i
  | _ => none
noncomputable def asT : PyData → Option (List PyData)
  | .tuple xs => some xs
  | _ => none
noncomputable def asL : PyData → Option (List PyData)
  | .list xs => some xs
  | _ => none
noncomputable def int2 {α : Type} (f : Int → Int → Option α) (x y : PyData) : Option α := (asI x).bind fun a => (asI y).bind fun b => f a b
noncomputable def addD (x y : PyData) : Option PyData := match x with
  | .int a => (asI y).map fun b => .int (a + b)
  | .tuple xs => (asT y).bind fun ys => if xs.length + ys.length ≤ 1000000 ∧ xs ≠ [] ∧ ys ≠ [] then some (.tuple (xs ++ ys)) else none
  | .list xs => (asL y).bind fun ys => if xs.length + ys.length ≤ 1000000 then some (.list (xs ++ ys)) else none
  | _ => none
noncomputable def binD (o : BO) (x y : PyData) : Option PyData := match o with
  | .add => addD x y
  | .sub => int2 (fun a b => some (.int (a - b))) x y
  | .mul => int2 (fun a b => if small a && small b then some (.int (a * b)) else none) x y
  | .fdiv => int2 (fun a b => if small a && small b && (b != 0) then some (.int (a.fdiv b)) else none) x y
  | .mod => int2 (fun a b => if b = 0 then none else some (.int (a.fmod b))) x y
  | .pow => int2 (fun a b => if small a && decide (0 ≤ b) && decide (b ≤ 1000) then some (.int (a ^ b.toNat)) else none) x y

noncomputable def inD (f : Bool → Bool) (x y : PyData) : Option Bool := match y with
  | .tuple ys => if min (PyData.depthAll ys) x.depth ≤ 64 then some (f (ys.any fun y => PyData.eqv y x)) else none
  | .list ys => if min (PyData.depthAll ys) x.depth ≤ 64 then some (f (ys.any fun y => PyData.eqv y x)) else none
  | _ => none
noncomputable def cmpD (o : CO) (x y : PyData) : Option Bool := match o with
  | .lt => int2 (fun a b => some (decide (a < b))) x y
  | .le => int2 (fun a b => some (decide (a ≤ b))) x y
  | .gt => int2 (fun a b => some (decide (b < a))) x y
  | .eq => if min x.depth y.depth ≤ 64 then some (PyData.eqv x y) else none
  | .ne => if min x.depth y.depth ≤ 64 then some (!PyData.eqv x y) else none
  | .isin => inD id x y
  | .notin => inD (!·) x y

noncomputable def pyGet {α : Type} (xs : List α) (i : Int) : Option α :=
  if 0 ≤ i then xs[i.toNat]? else if -(xs.length : Int) ≤ i then xs[(i + xs.length).toNat]? else none

noncomputable def idxD (x i : PyData) : Option PyData := match x with
  | .list xs => (asI i).bind (pyGet xs)
  | .tuple xs => (asI i).bind (pyGet xs)
  | _ => none

noncomputable def partD : PyData → Option (Option Int)
  | .none => some none
  | .int i => some (some i)
  | _ => none

noncomputable def pySl {α : Type} (xs : List α) (lo hi : Option Int) : List α :=
  (xs.drop (lo.elim 0 (clipAt xs.length))).take (hi.elim xs.length (clipAt xs.length) - lo.elim 0 (clipAt xs.length))

noncomputable def slD (x lo hi : PyData) : Option PyData :=
  match partD lo, partD hi with
  | some l, some u => match x with
    | .list xs => some (.list (pySl xs l u))
    | .tuple xs => match l, u with
      | some i, none => if i < 0 ∧ -1000 ≤ i then some (.tuple (pySl xs (some i) none)) else none
      | _, _ => none
    | _ => none
  | _, _ => none

noncomputable def lenD : PyData → Option PyData
  | .list xs => some (.int xs.length)
  | .tuple xs => some (.int xs.length)
  | _ => none

noncomputable def sumInts : List PyData → Option Int
  | [] => some 0
  | .int i :: r => if small i then (sumInts r).map (i + ·) else none
  | _ :: _ => none
noncomputable def sumLists : List PyData → Option (List PyData)
  | [] => some []
  | .list xs :: r => (sumLists r).map (xs ++ ·)
  | _ :: _ => none

noncomputable def items : PyData → Option (List PyData)
  | .list xs => some xs
  | .tuple xs => some xs
  | _ => none

noncomputable def compGo (f : PyData → Option Bool) (g : PyData → Option PyData) : List PyData → Option (List PyData)
  | [] => some []
  | x :: xs => match f x with
    | some true => match g x with
      | some y => (compGo f g xs).map (y :: ·)
      | none => none
    | some false => compGo f g xs
    | none => none

noncomputable def boolD : Option PyData → Option Bool
  | some (.bool b) => some b
  | _ => none

noncomputable abbrev Env0 := List (Option V)
noncomputable abbrev Ctab := Nat → List V → Option PyData

noncomputable def datAt (ρ : Env0) (k : Nat) : Option PyData := match ρ[k]? with | some (some (.dat d)) => some d | _ => none
noncomputable def valAt (ρ : Env0) (k : Nat) : Option V := match ρ[k]? with | some (some v) => some v | _ => none

noncomputable def varOf : ME → Option Nat
  | .var k => some k
  | _ => none

mutual
noncomputable def evP (Γ : Ctab) (ρ : Env0) : ME → Option PyData
  | .lit d => some d
  | .var k => datAt ρ k
  | .bin op a b => match evP Γ ρ a, evP Γ ρ b with
    | some x, some y => binD op x y
    | _, _ => none
  | .neg a => match evP Γ ρ a with
    | some (.int i) => some (.int (-i))
    | _ => none
  | .not a => match evP Γ ρ a with
    | some (.bool b) => some (.bool !b)
    | _ => none
  | .and es => (evAnd Γ ρ es).map .bool
  | .or es => (evOr Γ ρ es).map .bool
  | .ite t a b => match evP Γ ρ t with
    | some (.bool true) => evP Γ ρ a
    | some (.bool false) => evP Γ ρ b
    | _ => none
  | .list es => (evDs Γ ρ es).map .list
  | .tup es => (evDs Γ ρ es).map .tuple
  | .cmp op a b => match evP Γ ρ a, evP Γ ρ b with
    | some x, some y => (cmpD op x y).map .bool
    | _, _ => none
  | .cmp2 o1 o2 a b c => match evP Γ ρ a, evP Γ ρ b with
    | some x, some y => match cmpD o1 x y with
      | some true => match evP Γ ρ c with
        | some z => (cmpD o2 y z).map .bool
        | none => none
      | some false => some (.bool false)
      | none => none
    | _, _ => none
  | .idx a i => match evP Γ ρ a, evP Γ ρ i with
    | some x, some y => idxD x y
    | _, _ => none
  | .sl a lo hi => match evP Γ ρ a, evP Γ ρ lo, evP Γ ρ hi with
    | some x, some l, some u => slD x l u
    | _, _, _ => none
  | .rev a => match evP Γ ρ a with
    | some (.list xs) => some (.list xs.reverse)
    | _ => none
  | .call f args => match evAs Γ ρ args with
    | some vs => Γ f vs
    | none => none
  | .meth f k args => match valAt ρ k, evAs Γ ρ args with
    | some (.tab w m j), some vs => Γ f (.tab w m j :: vs)
    | _, _ => none
  | .attr i k => match valAt ρ k with
    | some (.tab w m j) => if i = 0 then some w else if i = 1 then some m else if i = 2 then some j else none
    | _ => none
  | .len a => match evP Γ ρ a with
    | some x => lenD x
    | none => none
  | .sum a => match evP Γ ρ a with
    | some (.list xs) => (sumInts xs).map .int
    | _ => none
  | .sumL a => match evP Γ ρ a with
    | some (.list xs) => match sumLists xs with
      | some ys => if ys.length ≤ 1000000 then some (.list ys) else none
      | none => none
    | _ => none
  | .toInt a => match evP Γ ρ a with
    | some (.int i) => some (.int i)
    | _ => none
  | .toList a => match evP Γ ρ a with
    | some x => (items x).map .list
    | none => none
  | .toTup a => match evP Γ ρ a with
    | some x => (items x).map .tuple
    | none => none
  | .comp k elt src test => match evP Γ ρ src with
    | some x => match items x with
      | some xs => (compGo (fun d => evAnd Γ (ρ.set k (some (.dat d))) test) (fun d => evP Γ (ρ.set k (some (.dat d))) elt) xs).map .list
      | none => none
    | none => none
  | .rng a => match evP Γ ρ a with
    | some (.int n) => if n ≤ 1000000 ∧ -1000000000 ≤ n then some (.list ((List.range n.toNat).map fun (i : Nat) => PyData.int (i : Int))) else none
    | _ => none
noncomputable def evDs (Γ : Ctab) (ρ : Env0) : List ME → Option (List PyData)
  | [] => some []
  | e :: es => match evP Γ ρ e, evDs Γ ρ es with
    | some d, some ds => some (d :: ds)
    | _, _ => none
noncomputable def evAs (Γ : Ctab) (ρ : Env0) : List ME → Option (List V)
  | [] => some []
  | e :: es => match (match varOf e with | some k => valAt ρ k | none => (evP Γ ρ e).map .dat), evAs Γ ρ es with
    | some d, some ds => some (d :: ds)
    | _, _ => none
noncomputable def evAnd (Γ : Ctab) (ρ : Env0) : List ME → Option Bool
  | [] => some true
  | e :: es => match evP Γ ρ e with
    | some (.bool true) => evAnd Γ ρ es
    | some (.bool false) => some false
    | _ => none
noncomputable def evOr (Γ : Ctab) (ρ : Env0) : List ME → Option Bool
  | [] => some false
  | e :: es => match evP Γ ρ e with
    | some (.bool true) => some true
    | some (.bool false) => evOr Γ ρ es
    | _ => none
end

end Mine
end

section
open PySem PyProof.Rows PySem.W
set_option Elab.async false
set_option linter.unusedVariables false
set_option linter.unusedSimpArgs false
namespace Mine

/-- the names that a text may use -/
structure GT where
  dat : List (Str × PyData)
  fn : List (Str × Nat)
  meth : List (Str × Nat)

/-- what stands of the globals -/
structure Sys where
  mg : Str → Option Value
  mb : Str → Option Value
  K : Frag
  C : Addr
  fv : Nat → Addr
  gt : GT

noncomputable def biTab : List (Str × Value) := [(Str.ofString "len", .builtin "len"), (Str.ofString "sum", .builtin "sum"), (Str.ofString "list", .type "list"), (Str.ofString "tuple", .type "tuple"),
  (Str.ofString "int", .type "int"), (Str.ofString "range", .type "range"), (Str.ofString "zip", .type "zip"), (Str.ofString "enumerate", .type "enumerate")]

noncomputable def attrName (i : Nat) : Option Str := if i = 0 then some (Str.ofString "wide") else if i = 1 then some (Str.ofString "marks") else if i = 2 then some (Str.ofString "joiners") else none

structure SysOk (S : Sys) : Prop where
  bi : ∀ x v, biTab.lookup x = some v → S.mg x = none ∧ S.mb x = some v
  pg : plainGet S.K S.C (Str.ofString "") = true
  hd : hasDictIn S.K S.C = true
  at_ : ∀ i x, attrName i = some x → findIn S.K (.ref S.C) x = some none
  meth : ∀ x k, S.gt.meth.lookup x = some k → findIn S.K (.ref S.C) x = some (some (.ref (S.fv k))) ∧ isFn S.K (.ref (S.fv k)) = true ∧ (∀ i y, attrName i = some y → (y == x) = false ∧ (x == y) = false)
  methf : ∀ x k, S.gt.meth.lookup x = some k → ∃ o fd, S.K.lookup (S.fv k) = some o ∧ o.data = .func fd
  fn : ∀ x k, S.gt.fn.lookup x = some k → S.mg x = some (.ref (S.fv k)) ∧ ∃ o fd, S.K.lookup (S.fv k) = some o ∧ o.data = .func fd

structure Base (S : Sys) (h : Heap) : Prop where
  ok : SysOk S
  g : h.Ns mainGlobals S.mg
  b : h.Ns builtinsNs S.mb
  lim : h.NoLimit
  kin : S.K.In h
  dat : ∀ x d, S.gt.dat.lookup x = some d → ∃ v, S.mg x = some v ∧ Rd (fun _ => False) h v d

noncomputable def Le (h h' : Heap) : Prop := ∀ b o, h.get? b = some o → h'.get? b = some o
theorem Le.refl (h : Heap) : Le h h := fun _ _ e => e
theorem Le.trans {a b c : Heap} (x : Le a b) (y : Le b c) : Le a c := fun p o e => y p o (x p o e)
theorem Le.push (h : Heap) (o : Obj) : Le h (h.push o) := fun _ _ e => Heap.get?_push_of_some o e

theorem Base.keeps {S : Sys} {h h' : Heap} (x : Base S h) (k : Le h h') : Base S h' := ⟨x.ok, x.g.keeps k, x.b.keeps k, x.lim.keeps k, x.kin.keeps k, fun y d e => let ⟨v, e1, r⟩ := x.dat y d e; ⟨v, e1, r.mono (fun _ _ _ p => p) (.of_le k)⟩⟩

theorem keeps_refl (s : Shared) : Keeps s s := ⟨s.heap, s.toks, rfl, fun _ _ e => e⟩
theorem keeps_trans {a b c : Shared} (x : Keeps a b) (y : Keeps b c) : Keeps a c := by
  obtain ⟨h1, t1, rfl, k1⟩ := x
  obtain ⟨h2, t2, rfl, k2⟩ := y
  exact ⟨h2, t2, rfl, fun _ _ e => k2 _ _ (k1 _ _ e)⟩
theorem keeps_le {a b : Shared} (x : Keeps a b) : Le a.heap b.heap := by obtain ⟨h, t, rfl, k⟩ := x; exact k
theorem keeps_tok (s : Shared) (n : Nat) : Keeps s { s with toks := n } := ⟨s.heap, n, rfl, fun _ _ e => e⟩
theorem keeps_heap {s : Shared} {h : Heap} {n : Nat} (k : Le s.heap h) : Keeps s { s with heap := h, toks := n } := ⟨h, n, rfl, k⟩
theorem keeps_heap' {s : Shared} {h : Heap} (k : Le s.heap h) : Keeps s { s with heap := h } := ⟨h, s.toks, rfl, k⟩

/-- the frames' and the C stack's room -/
structure Room (n : Nat) (A : Around) : Prop where
  hd : A.handled = none
  depth : A.depth + n ≤ 900
  units : A.units + 3 * n ≤ 9000

noncomputable abbrev Tk := Tok
/-- the table of widths as an object -/
noncomputable def TabAt (S : Sys) (P : Addr → Prop) (h : Heap) (v : Value) (w m j : PyData) : Prop :=
  ∃ x dx vw vm vj n h1 h2 h3 t1 t2 t3, v = .ref x ∧ P x ∧ P dx ∧ h.get? x = some (instObj S.C dx) ∧
    h.get? dx = some (dictOf [⟨h1, .str (Str.ofString "wide") t1, vw⟩, ⟨h2, .str (Str.ofString "marks") t2, vm⟩, ⟨h3, .str (Str.ofString "joiners") t3, vj⟩] n) ∧
    Rd P h vw w ∧ Rd P h vm m ∧ Rd P h vj j

noncomputable def Rep (S : Sys) (P : Addr → Prop) (h : Heap) (v : Value) : V → Prop
  | .dat d => Rd P h v d
  | .tab w m j => TabAt S P h v w m j

theorem Rep.mono {S : Sys} {P P' : Addr → Prop} {h h' : Heap} (hp : ∀ a o, h.get? a = some o → P a → P' a) (hs : Same P h h') {v : Value} {x : V} (r : Rep S P h v x) : Rep S P' h' v x := by
  cases x with
  | dat d => exact Rd.mono hp hs r
  | tab w m j =>
    obtain ⟨x, dx, vw, vm, vj, n, h1, h2, h3, t1, t2, t3, rfl, px, pd, ex, ed, rw, rm, rj⟩ := r
    exact ⟨x, dx, vw, vm, vj, n, h1, h2, h3, t1, t2, t3, rfl, hp _ _ ex px, hp _ _ ed pd, hs _ _ ex (.inl px), hs _ _ ed (.inl pd), rw.mono hp hs, rm.mono hp hs, rj.mono hp hs⟩

inductive RepAll (S : Sys) (P : Addr → Prop) (h : Heap) : List Value → List V → Prop
  | nil : RepAll S P h [] []
  | cons {v : Value} {vs : List Value} {x : V} {xs : List V} : Rep S P h v x → RepAll S P h vs xs → RepAll S P h (v :: vs) (x :: xs)
theorem RepAll.mono {S : Sys} {P P' : Addr → Prop} {h h' : Heap} (hp : ∀ a o, h.get? a = some o → P a → P' a) (hs : Same P h h') {vs : List Value} {xs : List V} (r : RepAll S P h vs xs) : RepAll S P' h' vs xs := by
  induction r with
  | nil => exact .nil
  | cons r _ ih => exact .cons (r.mono hp hs) ih

/-- a frame's names, and the names of the evaluator's slots -/
structure Cx where
  names : List (Str × NameKind)
  slots : List (Option Str)
  pins : List (Str × Value) := []

structure EnvOk (cx : Cx) (env : Env) : Prop where
  kind : env.scope.kind = .function
  names : env.scope.names = cx.names
  globals : env.globals = mainGlobals
  builtins : env.builtins = builtinsNs
  cells : ∀ n, cx.names.lookup n = some .cell → (env.cells.lookup n).isSome = true

noncomputable def Slot (env : Env) (h : Heap) (m : Str → Option Value) (x : Str) (v : Value) : Prop :=
  (env.kindOf x = some .local ∧ m x = some v) ∨ (env.kindOf x = some .cell ∧ ∃ c, env.cells.lookup x = some c ∧ h.IsCell c (some v))

noncomputable def Rel0 (S : Sys) (cx : Cx) (env : Env) (ρ : Env0) (P : Addr → Prop) (s : Shared) : Prop :=
  ∃ m, s.heap.Ns env.locals m ∧ ∀ k x X, cx.slots[k]? = some (some x) → valAt ρ k = some X → ∃ v, Slot env s.heap m x v ∧ Rep S P s.heap v X

theorem Slot.keeps {env : Env} {h h' : Heap} {m : Str → Option Value} {x : Str} {v : Value} (k : Le h h') (r : Slot env h m x v) : Slot env h' m x v := by
  rcases r with r | ⟨a, c, b, d⟩
  · exact .inl r
  · exact .inr ⟨a, c, b, d.keeps k⟩
theorem Rel0.keeps {S : Sys} {cx : Cx} {env : Env} {ρ : Env0} {P : Addr → Prop} {s s' : Shared} (r : Rel0 S cx env ρ P s) (k : Keeps s s') : Rel0 S cx env ρ P s' := by
  obtain ⟨m, hn, hr⟩ := r
  refine ⟨m, hn.keeps (keeps_le k), fun i x X e1 e2 => ?_⟩
  obtain ⟨v, hv, hp⟩ := hr i x X e1 e2
  exact ⟨v, hv.keeps (keeps_le k), hp.mono (fun _ _ _ p => p) (.of_le (keeps_le k))⟩

/-- the tree gives a value that stands for d, and keeps all -/
noncomputable def EvOk (prog : Program) (w : World) (A : Around) (t : Sem Value) (P : Addr → Prop) (s : Shared) (d : PyData) : Prop :=
  ∀ E : Value → Shared → Prop, wpAny (model prog w) A t (fun v s' => Keeps s s' ∧ Rd (Up P s) s'.heap v d) E s
noncomputable def EvOkV (S : Sys) (prog : Program) (w : World) (A : Around) (t : Sem Value) (P : Addr → Prop) (s : Shared) (x : V) : Prop :=
  ∀ E : Value → Shared → Prop, wpAny (model prog w) A t (fun v s' => Keeps s s' ∧ Rep S (Up P s) s'.heap v x) E s
noncomputable def TsOk (prog : Program) (w : World) (A : Around) (t : Sem Bool) (s : Shared) (b : Bool) : Prop :=
  ∀ E : Value → Shared → Prop, wpAny (model prog w) A t (fun v s' => v = b ∧ Keeps s s') E s

theorem up_up {P : Addr → Prop} {s s' : Shared} (k : Keeps s s') (a : Addr) (h : Up (Up P s) s' a) : Up P s a := by
  rcases h with h | h
  · exact h
  · right
    cases e : s.heap.get? a with
    | none => rfl
    | some o => rw [keeps_le k _ _ e] at h; cases h
theorem up_keep {P : Addr → Prop} {s s' : Shared} (k : Keeps s s') (a : Addr) (h : Up P s' a) : Up P s a := by
  rcases h with h | h
  · exact .inl h
  · right
    cases e : s.heap.get? a with
    | none => rfl
    | some o => rw [keeps_le k _ _ e] at h; cases h

theorem Rd.later {P : Addr → Prop} {s s' s'' : Shared} {v : Value} {d : PyData} (k : Keeps s' s'') (r : Rd (Up P s) s'.heap v d) : Rd (Up P s) s''.heap v d :=
  r.mono (fun _ _ _ p => p) (.of_le (keeps_le k))
theorem Rd.back {P : Addr → Prop} {s s' : Shared} {h : Heap} {v : Value} {d : PyData} (k : Keeps s s') (r : Rd (Up P s') h v d) : Rd (Up P s) h v d :=
  r.mono (fun a _ _ p => up_keep k a p) (fun _ _ e _ => e)
theorem Rep.later {S : Sys} {P : Addr → Prop} {s s' s'' : Shared} {v : Value} {d : V} (k : Keeps s' s'') (r : Rep S (Up P s) s'.heap v d) : Rep S (Up P s) s''.heap v d :=
  r.mono (fun _ _ _ p => p) (.of_le (keeps_le k))
theorem Rep.back {S : Sys} {P : Addr → Prop} {s s' : Shared} {h : Heap} {v : Value} {d : V} (k : Keeps s s') (r : Rep S (Up P s') h v d) : Rep S (Up P s) h v d :=
  r.mono (fun a _ _ p => up_keep k a p) (fun _ _ e _ => e)

section
variable {S : Sys} {prog : Program} {w : World} {A : Around} {P : Addr → Prop} {s : Shared} {d : PyData}

theorem EvOk.of_rd {v : Value} (r : Rd P s.heap v d) : EvOk prog w A (pure v) P s d := fun _ =>
  wpAny_pure ⟨keeps_refl s, r.mono (fun _ _ _ p => .inl p) (.of_le (Le.refl _))⟩
theorem EvOk.of_eq {t t' : Sem Value} (e : t = t') (h : EvOk prog w A t' P s d) : EvOk prog w A t P s d := e ▸ h
end

section
variable {S : Sys} {prog : Program} {w : World} {A : Around} {P : Addr → Prop} {s : Shared} {env : Env}
theorem ev_int (i : Int) (k : Nat) (pos : Pos) : EvOk prog w A (eval (.Constant (.int i) k pos) env) P s (.int i) := fun _ =>
  wpAny_Constant_int ⟨keeps_tok s _, .int i _⟩
theorem ev_bool (b : Bool) (k : Nat) (pos : Pos) : EvOk prog w A (eval (.Constant (.bool b) k pos) env) P s (.bool b) := fun _ =>
  wpAny_Constant_bool ⟨keeps_refl s, .bool b⟩

theorem ev_slot {cx : Cx} {ρ : Env0} {k : Nat} {x : Str} {X : V} {pos : Pos} (he : EnvOk cx env) (r : Rel0 S cx env ρ P s) (hx : cx.slots[k]? = some (some x)) (hv : valAt ρ k = some X)
    (hd : (x == ("__debug__" : Str)) = false) : EvOkV S prog w A (eval (.Name x pos) env) P s X := fun E => by
  obtain ⟨m, hn, hr⟩ := r
  obtain ⟨v, hs, hp⟩ := hr k x X hx hv
  have fin : Keeps s s ∧ Rep S (Up P s) s.heap v X := ⟨keeps_refl s, hp.mono (fun _ _ _ p => .inl p) (.of_le (Le.refl _))⟩
  rcases hs with ⟨h1, h2⟩ | ⟨h1, c, h2, h3⟩
  · exact wpAny_Name (wpAny_loadName_local he.kind h1 hn h2 fin) hd
  · exact wpAny_Name (wpAny_loadName_cell he.kind h1 h2 h3 fin) hd

/-- two in a row -/
theorem EvOk.bind {t : Sem Value} {d : PyData} {Q : Value → Shared → Prop} {E : Value → Shared → Prop} (h : EvOk prog w A t P s d)
    (k : ∀ v s', Keeps s s' → Rd (Up P s) s'.heap v d → Q v s') : wpAny (model prog w) A t Q E s :=
  wpAny_mono (h E) (fun v s' ⟨a, b⟩ => k v s' a b) fun _ _ x => x

theorem add_tuple_any {a b : Addr} {vs ws : Array Value} {n n2 : Nat} {Q : Value → Shared → Prop} {E : Value → Shared → Prop} (ha : s.heap.get? a = some (tob vs n)) (hb : s.heap.get? b = some (tob ws n2)) (h1 : vs.toList ≠ []) (h2 : ws.toList ≠ [])
    (h : Q (.ref s.heap.objs.size) { s with heap := s.heap.push (tob (vs ++ ws) 0) }) (hz : vs.size + ws.size ≤ sizeLine) : wpAny (model prog w) A (binaryOp .Add (.ref a) (.ref b)) Q E s :=
  _root_.PySem.P.add_tuple ha hb (by simpa using h1) (by simpa using h2) h hz

theorem asI_inv {x : PyData} {i : Int} (h : asI x = some i) : x = .int i := by
  cases x with
  | int j => cases h; rfl
  | _ => cases h
theorem asT_inv {x : PyData} {l : List PyData} (h : asT x = some l) : x = .tuple l := by
  cases x with
  | tuple j => cases h; rfl
  | _ => cases h
theorem asL_inv {x : PyData} {l : List PyData} (h : asL x = some l) : x = .list l := by
  cases x with
  | list j => cases h; rfl
  | _ => cases h
theorem int2_inv {α : Type} {f : Int → Int → Option α} {x y : PyData} {z : α} (h : int2 f x y = some z) : ∃ a b, x = .int a ∧ y = .int b ∧ f a b = some z := by
  obtain ⟨a, h1, h⟩ := Option.bind_eq_some_iff.mp h
  obtain ⟨b, h2, h⟩ := Option.bind_eq_some_iff.mp h
  exact ⟨a, b, asI_inv h1, asI_inv h2, h⟩
theorem some_if {α : Type} {c : Prop} [Decidable c] {x y : α} (h : (if c then some x else none) = some y) : c ∧ y = x := by
  by_cases hc : c
  · exact ⟨hc, (Option.some.inj ((if_pos hc).symm.trans h)).symm⟩
  · cases (if_neg hc).symm.trans h
theorem none_if {α : Type} {c : Prop} [Decidable c] {x : Option α} {y : α} (h : (if c then none else x) = some y) : ¬ c ∧ x = some y := by
  by_cases hc : c
  · cases (if_pos hc).symm.trans h
  · exact ⟨hc, (if_neg hc).symm.trans h⟩
theorem int_inv {h : Heap} {v : Value} {i : Int} (r : Rd P h v (.int i)) : ∃ t, v = .int i t := by cases r; exact ⟨_, rfl⟩
theorem bool_inv {h : Heap} {v : Value} {b : Bool} (r : Rd P h v (.bool b)) : v = .bool b := by cases r; rfl
theorem list_inv {h : Heap} {v : Value} {ds : List PyData} (r : Rd P h v (.list ds)) : ∃ t us n, v = .ref t ∧ P t ∧ h.get? t = some (lob us n) ∧ us.size ≤ 1000000 ∧ RdAll P h us.toList ds := by
  cases r with | list p e z r => exact ⟨_, _, _, rfl, p, e, z, r⟩
theorem tup_inv {h : Heap} {v : Value} {ds : List PyData} (r : Rd P h v (.tuple ds)) : ∃ t us n, v = .ref t ∧ h.get? t = some (tob us n) ∧ us.size ≤ 1000000 ∧ RdAll P h us.toList ds := by
  cases r with | tuple e z r => exact ⟨_, _, _, rfl, e, z, r⟩
theorem size_of {h : Heap} {vs : Array Value} {xs : List PyData} (r : RdAll P h vs.toList xs) : vs.size = xs.length := by rw [← r.length, Array.length_toList]
theorem fresh_size (h : Heap) : h.get? h.objs.size = none := by
  cases q : h.get? h.objs.size with
  | none => rfl
  | some o => exact absurd (Heap.lt_size q) (Nat.lt_irrefl _)
/-- an operation on two ints -/
theorem ev_int2 {o : Operator} {f : Int → Int → Option PyData} {a b : Value} {x y z : PyData} (ha : Rd P s.heap a x) (hb : Rd P s.heap b y) (hz : int2 f x y = some z)
    (h : ∀ i j t u E, f i j = some z → wpAny (model prog w) A (binaryOp o (.int i t) (.int j u)) (fun v s' => Keeps s s' ∧ Rd (Up P s) s'.heap v z) E s) : EvOk prog w A (binaryOp o a b) P s z := by
  obtain ⟨i, j, e1, e2, hz⟩ := int2_inv hz
  subst e1 e2
  obtain ⟨t, e1⟩ := int_inv ha
  obtain ⟨u, e2⟩ := int_inv hb
  rw [e1, e2]
  exact fun E => h i j t u E hz
theorem add_tup {a b : Value} {xs ys : List PyData} (ha : Rd P s.heap a (.tuple xs)) (hb : Rd P s.heap b (.tuple ys)) (hc : xs.length + ys.length ≤ 1000000) (h1 : xs ≠ []) (h2 : ys ≠ []) : EvOk prog w A (binaryOp .Add a b) P s (.tuple (xs ++ ys)) := fun E => by
  obtain ⟨t, us, n, e1, f1, z1, r1⟩ := tup_inv ha
  obtain ⟨u, vs, m, e2, f2, z2, r2⟩ := tup_inv hb
  have l : us.size + vs.size = xs.length + ys.length := by rw [size_of r1, size_of r2]
  rw [e1, e2]
  refine add_tuple_any f1 f2 (fun e => h1 (List.eq_nil_of_length_eq_zero (by rw [← r1.length, e]; rfl))) (fun e => h2 (List.eq_nil_of_length_eq_zero (by rw [← r2.length, e]; rfl))) ⟨keeps_heap' (Le.push _ _), ?_⟩ (by rw [sizeLine_eq]; omega)
  refine .tuple (n := 0) (Heap.get?_push_size _ rfl) (by rw [Array.size_append, l]; exact hc) ?_
  rw [Array.toList_append]
  exact RdAll.mono (fun _ _ _ p => .inl p) (.of_le (Le.push _ _)) (r1.append r2)
theorem add_lis {a b : Value} {xs ys : List PyData} (ha : Rd P s.heap a (.list xs)) (hb : Rd P s.heap b (.list ys)) (hc : xs.length + ys.length ≤ 1000000) : EvOk prog w A (binaryOp .Add a b) P s (.list (xs ++ ys)) := fun E => by
  obtain ⟨t, us, n, e1, p1, f1, z1, r1⟩ := list_inv ha
  obtain ⟨u, vs, m, e2, p2, f2, z2, r2⟩ := list_inv hb
  have l : us.size + vs.size = xs.length + ys.length := by rw [size_of r1, size_of r2]
  rw [e1, e2]
  refine _root_.PySem.P.add_list f1 f2 ⟨keeps_heap' (Le.push _ _), ?_⟩ (by rw [sizeLine_eq]; omega)
  refine .list (n := 0) (.inr (fresh_size _)) (Heap.get?_push_size _ rfl) (by rw [Array.size_append, l]; exact hc) ?_
  rw [Array.toList_append]
  exact RdAll.mono (fun _ _ _ p => .inl p) (.of_le (Le.push _ _)) (r1.append r2)
theorem small_le {i : Int} (h : small i = true) : -1000000000 ≤ i ∧ i ≤ 1000000000 :=
  ⟨of_decide_eq_true (Bool.and_eq_true_iff.mp h).1, of_decide_eq_true (Bool.and_eq_true_iff.mp h).2⟩

theorem wpAny_addD {a b : Value} {x y z : PyData} (ha : Rd P s.heap a x) (hb : Rd P s.heap b y) (hz : addD x y = some z) : EvOk prog w A (binaryOp .Add a b) P s z := by
  cases x with
  | int i =>
    obtain ⟨j, h1, h2⟩ := Option.map_eq_some_iff.mp hz
    subst h2
    rw [asI_inv h1] at hb
    obtain ⟨t, e1⟩ := int_inv ha
    obtain ⟨u, e2⟩ := int_inv hb
    rw [e1, e2]
    exact fun E => _root_.PySem.P.add_int ⟨keeps_tok s _, .int _ _⟩
  | tuple xs =>
    obtain ⟨ys, h1, h2⟩ := Option.bind_eq_some_iff.mp hz
    obtain ⟨hc, h2⟩ := some_if h2
    subst h2
    rw [asT_inv h1] at hb
    exact add_tup ha hb hc.1 hc.2.1 hc.2.2
  | list xs =>
    obtain ⟨ys, h1, h2⟩ := Option.bind_eq_some_iff.mp hz
    obtain ⟨hc, h2⟩ := some_if h2
    subst h2
    rw [asL_inv h1] at hb
    exact add_lis ha hb hc
  | _ => cases hz
theorem wpAny_binD {op : BO} {o : Operator} {a b : Value} {x y z : PyData} (hop : o = (match op with | .add => .Add | .sub => .Sub | .mul => .Mult | .fdiv => .FloorDiv | .mod => .Mod | .pow => .Pow))
    (ha : Rd P s.heap a x) (hb : Rd P s.heap b y) (hz : binD op x y = some z) : EvOk prog w A (binaryOp o a b) P s z := by
  subst hop
  cases op with
  | add => exact wpAny_addD ha hb hz
  | sub => exact ev_int2 ha hb hz fun i j t u E q => by cases q; exact _root_.PySem.P.sub_int ⟨keeps_tok s _, .int _ _⟩
  | mul =>
    refine ev_int2 ha hb hz fun i j t u E q => ?_
    obtain ⟨hc, q⟩ := some_if q
    subst q
    have h1 := small_le (Bool.and_eq_true_iff.mp hc).2
    exact _root_.PySem.P.mul_int ⟨keeps_tok s _, .int _ _⟩ (IntMulOk.of_right (PySem.intBits_le_64 (by omega) (by omega)))
  | fdiv =>
    refine ev_int2 ha hb hz fun i j t u E q => ?_
    obtain ⟨hc, q⟩ := some_if q
    subst q
    obtain ⟨hc, h0⟩ := Bool.and_eq_true_iff.mp hc
    have h1 := small_le (Bool.and_eq_true_iff.mp hc).2
    exact floordiv_int (bne_iff_ne.mp h0) ⟨keeps_tok s _, .int _ _⟩ (.inl (PyProof.noPylong_small (by omega)))
  | mod =>
    refine ev_int2 ha hb hz fun i j t u E q => ?_
    obtain ⟨hc, q⟩ := none_if q
    cases q
    exact mod_int' hc ⟨keeps_tok s _, .int _ _⟩
  | pow =>
    refine ev_int2 ha hb hz fun i j t u E q => ?_
    obtain ⟨hc, q⟩ := some_if q
    subst q
    obtain ⟨hc, h2⟩ := Bool.and_eq_true_iff.mp hc
    obtain ⟨hc, h1⟩ := Bool.and_eq_true_iff.mp hc
    have h1 := of_decide_eq_true h1
    have h2 := of_decide_eq_true h2
    have h3 := small_le hc
    exact pow_int_small (by omega) (by omega) (by omega) ⟨keeps_tok s _, .int _ _⟩
end
end Mine
end

section
open PySem PyProof.Rows PySem.W
set_option Elab.async false
set_option linter.unusedVariables false
set_option linter.unusedSimpArgs false
namespace Mine
section
variable {S : Sys} {prog : Program} {w : World} {A : Around} {P : Addr → Prop} {s : Shared} {E : Value → Shared → Prop}

noncomputable def cop : CO → CmpOp
  | .lt => .Lt | .le => .LtE | .gt => .Gt | .eq => .Eq | .ne => .NotEq | .isin => .In | .notin => .NotIn

/-- a comparison of two ints -/
theorem cmp_int2 {o : CmpOp} {f : Int → Int → Bool} {a b : Value} {x y : PyData} {r : Bool} {Q : Value → Shared → Prop} (ha : Rd P s.heap a x) (hb : Rd P s.heap b y) (hz : int2 (fun a b => some (f a b)) x y = some r)
    (h : ∀ i j t u, Q (.bool (f i j)) s → wpAny (model prog w) A (compareOp o (.int i t) (.int j u)) Q E s) (q : Q (.bool r) s) : wpAny (model prog w) A (compareOp o a b) Q E s := by
  obtain ⟨i, j, e1, e2, hz⟩ := int2_inv hz
  subst e1 e2
  obtain ⟨t, e1⟩ := int_inv ha
  obtain ⟨u, e2⟩ := int_inv hb
  rw [e1, e2]
  exact h i j t u (Option.some.inj hz ▸ q)
theorem wpAny_cmpD {n : Nat} {op : CO} {a b : Value} {x y : PyData} {r : Bool} {Q : Value → Shared → Prop} (R : Room n A) (ha : Rd P s.heap a x) (hb : Rd P s.heap b y) (hz : cmpD op x y = some r)
    (h : Q (.bool r) s) : wpAny (model prog w) A (compareOp (cop op) a b) Q E s := by
  have hu : A.units ≤ 9000 := Nat.le_trans (Nat.le_add_right _ _) R.units
  have hc : cLine = 9900 := rfl
  obtain ⟨as, ra⟩ := ha.reads
  obtain ⟨bs, rb⟩ := hb.reads
  have ca := ha.canLay
  have cb := hb.canLay
  cases op with
  | lt => exact cmp_int2 ha hb hz (fun i j t u q => _root_.PySem.P.lt_int q) h
  | le => exact cmp_int2 ha hb hz (fun i j t u q => _root_.PySem.P.le_int q) h
  | gt => exact cmp_int2 ha hb hz (fun i j t u q => _root_.PySem.P.gt_int q) h
  | eq =>
    obtain ⟨hm, hz⟩ := some_if hz
    subst hz
    exact SeqAt.compareEq_reads ra rb ca cb (by omega) h
  | ne =>
    obtain ⟨hm, hz⟩ := some_if hz
    subst hz
    exact SeqAt.compareNe_reads ra rb ca cb (by omega) h
  | isin => cases y with
    | tuple ys =>
      obtain ⟨hm, hz⟩ := some_if hz
      subst hz
      exact SeqAt.in_tuple_reads rb ra cb ca (by omega) h
    | list ys =>
      obtain ⟨hm, hz⟩ := some_if hz
      subst hz
      exact SeqAt.in_list_reads rb ra cb ca (by omega) h
    | _ => cases hz
  | notin => cases y with
    | tuple ys =>
      obtain ⟨hm, hz⟩ := some_if hz
      subst hz
      exact SeqAt.notIn_tuple_reads rb ra cb ca (by omega) h
    | list ys =>
      obtain ⟨hm, hz⟩ := some_if hz
      subst hz
      exact SeqAt.notIn_list_reads rb ra cb ca (by omega) h
    | _ => cases hz

theorem subscripted_ops (slice : Expr) (o i : Value) : ∃ ops, subscripted slice false o i = operate ops (getItem o i) := by
  cases slice with
  | Slice lo hi st p => cases st <;> exact ⟨_, rfl⟩
  | _ => exact ⟨_, rfl⟩

theorem isList_of {a : Addr} {vs : Array Value} {n : Nat} {h : Heap} (e : h.get? a = some (lob vs n)) : h.IsList a vs := ⟨_, e, rfl, n, rfl⟩
theorem isTup_of {a : Addr} {vs : Array Value} {n : Nat} {h : Heap} (e : h.get? a = some (tob vs n)) : IsTup h a vs := ⟨_, e, rfl, n, rfl⟩
theorem Rd.up {h : Heap} {v : Value} {d : PyData} (r : Rd P s.heap v d) (k : Le s.heap h) : Rd (Up P s) h v d := r.mono (fun _ _ _ p => .inl p) (.of_le k)
theorem RdAll.up {h : Heap} {v : List Value} {d : List PyData} (r : RdAll P s.heap v d) (k : Le s.heap h) : RdAll (Up P s) h v d := r.mono (fun _ _ _ p => .inl p) (.of_le k)

theorem pyGet_cases {xs : List PyData} {i : Int} {z : PyData} (h : pyGet xs i = some z) : (0 ≤ i ∧ xs[i.toNat]? = some z) ∨ (i < 0 ∧ -(xs.length : Int) ≤ i ∧ xs[(i + xs.length).toNat]? = some z) := by
  by_cases h0 : 0 ≤ i
  · exact .inl ⟨h0, (if_pos h0).symm.trans h⟩
  · have h := (if_neg h0).symm.trans h
    by_cases h1 : -(xs.length : Int) ≤ i
    · exact .inr ⟨Int.not_le.mp h0, h1, (if_pos h1).symm.trans h⟩
    · cases (if_neg h1).symm.trans h
theorem wpAny_idxD {value slice : Expr} {a i : Value} {x y z : PyData} (ha : Rd P s.heap a x) (hi : Rd P s.heap i y) (hz : idxD x y = some z) : EvOk prog w A (subscriptTail value slice a i) P s z := by
  intro E
  cases x with
  | list xs =>
    obtain ⟨j, h1, hz⟩ := Option.bind_eq_some_iff.mp hz
    rw [asI_inv h1] at hi
    obtain ⟨t, e1⟩ := int_inv hi
    obtain ⟨b, us, n, e2, p, e, sz, r⟩ := list_inv ha
    obtain ⟨ops, hops⟩ := subscripted_ops slice (.ref b) (.int j t)
    have hl := size_of r
    rw [e1, e2]
    refine tail_any (isList_of e).typeIs slot_list_getitem.lookup ?_ hops
    rcases pyGet_cases hz with ⟨h0, hz⟩ | ⟨h0, h1, hz⟩
    · obtain ⟨v, hv, hr⟩ := r.get hz
      have hlt := (List.getElem?_eq_some_iff.mp hz).1
      exact wpAny_getItem_list (isList_of e) h0 (by omega) (by rwa [Array.getElem?_toList] at hv) ⟨keeps_refl s, hr.up (Le.refl _)⟩
    · obtain ⟨v, hv, hr⟩ := r.get hz
      exact wpAny_getItem_list_neg (isList_of e) (by omega) (by omega) (by omega) (by rw [hl]; rwa [Array.getElem?_toList] at hv) ⟨keeps_refl s, hr.up (Le.refl _)⟩
  | tuple xs =>
    obtain ⟨j, h1, hz⟩ := Option.bind_eq_some_iff.mp hz
    rw [asI_inv h1] at hi
    obtain ⟨t, e1⟩ := int_inv hi
    obtain ⟨b, us, n, e2, e, sz, r⟩ := tup_inv ha
    obtain ⟨ops, hops⟩ := subscripted_ops slice (.ref b) (.int j t)
    have hl := size_of r
    rw [e1, e2]
    refine tail_any (isTup_of e).typeIs slot_tuple_getitem.lookup ?_ hops
    rcases pyGet_cases hz with ⟨h0, hz⟩ | ⟨h0, h1, hz⟩
    · obtain ⟨v, hv, hr⟩ := r.get hz
      have hlt := (List.getElem?_eq_some_iff.mp hz).1
      exact getItem_tuple (isTup_of e) (by omega) (by omega) (PySem.seqIndex_of h0 (by omega)) (by rwa [Array.getElem?_toList] at hv) ⟨keeps_refl s, hr.up (Le.refl _)⟩
    · obtain ⟨v, hv, hr⟩ := r.get hz
      exact getItem_tuple (isTup_of e) (by omega) (by omega) (PySem.seqIndex_neg (by omega) (by omega)) (by rw [hl]; rwa [Array.getElem?_toList] at hv) ⟨keeps_refl s, hr.up (Le.refl _)⟩
  | _ => cases hz

theorem wpAny_lenD {a : Value} {x z : PyData} (ha : Rd P s.heap a x) (hz : lenD x = some z) : EvOk prog w A (call (.builtin "len") [a]) P s z := by
  intro E
  cases x with
  | list xs =>
    cases hz
    obtain ⟨b, us, n, e2, p, e, sz, r⟩ := list_inv ha
    rw [e2, ← size_of r]
    exact Calls.call_len_list (isList_of e) (by omega) ⟨keeps_tok s _, .int _ _⟩
  | tuple xs =>
    cases hz
    obtain ⟨b, us, n, e2, e, sz, r⟩ := tup_inv ha
    rw [e2, ← size_of r]
    exact len_tuple (isTup_of e) (by omega) ⟨keeps_tok s _, .int _ _⟩
  | _ => cases hz

theorem wpAny_toListD {a : Value} {x : PyData} {xs : List PyData} (ha : Rd P s.heap a x) (hz : items x = some xs) : EvOk prog w A (call (.type "list") [a]) P s (.list xs) := by
  intro E
  have fr := fresh_size s.heap
  cases x with
  | list xs =>
    cases hz
    obtain ⟨b, us, n, e2, p, e, sz, r⟩ := list_inv ha
    rw [e2]
    exact call_list_seq _ (T := "list") (.inl rfl) e rfl rfl (fun h' c' hk hg => ⟨keeps_heap' hk, .list (.inr fr) hg sz (r.up hk)⟩) (by rw [sizeLine_eq]; omega)
  | tuple xs =>
    cases hz
    obtain ⟨b, us, n, e2, e, sz, r⟩ := tup_inv ha
    rw [e2]
    exact call_list_seq _ (T := "tuple") (.inr rfl) e rfl rfl (fun h' c' hk hg => ⟨keeps_heap' hk, .list (.inr fr) hg sz (r.up hk)⟩) (by rw [sizeLine_eq]; omega)
  | _ => cases hz

theorem wpAny_toTupD {a : Value} {x : PyData} {xs : List PyData} (ha : Rd P s.heap a x) (hz : items x = some xs) : EvOk prog w A (call (.type "tuple") [a]) P s (.tuple xs) := by
  intro E
  cases x with
  | list xs =>
    cases hz
    obtain ⟨b, us, n, e2, p, e, sz, r⟩ := list_inv ha
    rw [e2]
    exact call_tuple_list (isList_of e) (fun h' hk => ⟨keeps_heap' (Le.trans hk (Le.push _ _)), .tuple (n := 0) (Heap.get?_push_size _ rfl) sz (r.up (Le.trans hk (Le.push _ _)))⟩) (by rw [sizeLine_eq]; omega)
  | tuple xs =>
    cases hz
    obtain ⟨b, us, n, e2, e, sz, r⟩ := tup_inv ha
    rw [e2]
    exact call_tuple_tup (isTup_of e) ⟨keeps_refl s, .tuple e sz (r.up (Le.refl _))⟩
  | _ => cases hz

theorem wpAny_toIntD {a : Value} {i : Int} (ha : Rd P s.heap a (.int i)) : EvOk prog w A (call (.type "int") [a]) P s (.int i) := by
  intro E
  obtain ⟨t, e⟩ := int_inv ha
  rw [e]
  exact call_int_int ⟨keeps_refl s, .int _ _⟩
end
end Mine
end

section
open PySem PyProof.Rows PySem.W
set_option Elab.async false
set_option linter.unusedVariables false
set_option linter.unusedSimpArgs false
namespace Mine
section
variable {S : Sys} {prog : Program} {w : World} {A : Around} {P : Addr → Prop} {s : Shared} {E : Value → Shared → Prop}

theorem isPart_of {v : Value} {d : PyData} {k : Option Int} (r : Rd P s.heap v d) (e : partD d = some k) : IsPart v k := by
  unfold partD at e
  split at e
  · cases e; cases r; exact .none
  · cases e; cases r; exact .int _ _
  · cases e

theorem RdAll.pySl {h : Heap} {vs : List Value} {xs : List PyData} (r : RdAll P h vs xs) (lo hi : Option Int) : RdAll P h (pySl vs lo hi) (pySl xs lo hi) := by
  unfold Mine.pySl
  rw [r.length]
  exact (r.drop _).take _

theorem pySl_len {α : Type} (xs : List α) (lo hi : Option Int) : (pySl xs lo hi).length ≤ xs.length := by
  unfold pySl
  rw [List.length_take, List.length_drop]
  omega

theorem sliceAdjust_neg (k n : Nat) (hk : 1 ≤ k) : Builtin.Slice.sliceAdjust (some (-(k : Int))) none 1 (n : Int) = (((n - k : Nat) : Int), (n : Int)) := by
  unfold Builtin.Slice.sliceAdjust
  have h1 : ¬ ((1 : Int) < 0) := by omega
  have h2 : (-(k : Int) < 0) := by omega
  simp only [h1, if_false, h2, if_true]
  congr 1
  omega

theorem sliceApplied_neg {sl : Addr} {k n : Nat} {u : Tok} {Q : Int × Int × Nat → Shared → Prop} (hk : 1 ≤ k) (hs : s.heap.IsSliceOf sl (.int (-(k : Int)) u) .none .none) (h : Q (((n - k : Nat) : Int), 1, n - (n - k)) s) :
    wpAny (model prog w) A (Builtin.Slice.sliceApplied (.ref sl) (pure (n : Int))) Q E s := by
  obtain ⟨os, hos, hcs, hds⟩ := id hs
  unfold Builtin.Slice.sliceApplied Builtin.Slice.sliceFields
  refine wpAny_bind (wpAny_bind (wpAny_field hos hds (x := .int (-(k : Int)) u) rfl (wpAny_bind (wpAny_field hos hds (x := .none) rfl (wpAny_bind (wpAny_field hos hds (x := .none) rfl (wpAny_pure ?_)))))))
  refine wpAny_bind (slicePart_none ?_)
  show wpAny _ _ (if ((1 : Int) == 0) = true then _ else _) _ _ s
  rw [if_neg (by decide)]
  refine wpAny_bind (slicePart_int (wpAny_bind (slicePart_none (wpAny_bind (wpAny_pure ?_)))))
  show wpAny _ _ (match Builtin.Slice.sliceAdjust (some (-(k : Int))) none 1 (n : Int) with | (lo, hi) => pure (lo, (1 : Int), Builtin.Slice.slicePlaces lo hi 1)) _ _ s
  rw [sliceAdjust_neg k n hk]
  show wpAny _ _ (pure (((n - k : Nat) : Int), (1 : Int), Builtin.Slice.slicePlaces ((n - k : Nat) : Int) (n : Int) 1)) _ _ s
  rw [places_from (n - k) n (by omega)]
  exact wpAny_pure h

theorem getItem_tuple_neg {t sl : Addr} {items : Array Value} {n k : Nat} {u : Tok} {Q : Value → Shared → Prop} (ht : s.heap.get? t = some (tob items n)) (hk : 1 ≤ k) (hs : s.heap.IsSliceOf sl (.int (-(k : Int)) u) .none .none)
    (h1 : items.size ≤ k → Q (.ref t) s)
    (h2 : Q (.ref s.heap.objs.size) { s with heap := s.heap.push (tob (items.toList.drop (items.size - k)).toArray 0) })
    (hsz : items.size ≤ sizeLine) : wpAny (model prog w) A (getItem (.ref t) (.ref sl)) Q E s := by
  have ht' := isTup_of ht
  have hdrop : sizeOk (.seq (items.toList.drop (items.size - k)).toArray) := by
    show (items.toList.drop (items.size - k)).toArray.size ≤ sizeLine
    rw [List.size_toArray, List.length_drop, Array.length_toList]
    omega
  obtain ⟨os, hos, hcs, hds⟩ := id hs
  have hTs : s.TypeIs (.ref sl) "slice" := ⟨os, hos, hcs⟩
  unfold getItem
  try with_reducible refine wpAny_holding ?_
  first | refine wpAny_bind (wpAny_pure ?_) | skip
  refine wpAny_bind (wpAny_sequenceKey ht'.typeIs (by decide) ?_)
  refine wpAny_bind (wpAny_callSpecial?_slot (name := Str.ofString "__getitem__") ht'.typeIs slot_tuple_getitem
    (wpAny_call_entry slot_tuple_getitem ht'.typeIs entry_tuple_getitem ?_ (args_tuple_getitem _ _)))
  show wpAny _ _ (Builtin.Tuple.tupleItemsOf (.ref t) >>= _) _ _ s
  refine wpAny_bind (tupleItemsOf_ ht' ?_)
  refine wpAny_bind (wpAny_typeOf hTs ?_)
  rw [if_pos (by decide)]
  refine wpAny_bind (sliceApplied_neg hk hs ?_)
  show wpAny _ _ (if (((items.size - k : Nat) : Int) == 0 && (1 : Int) == 1 && (items.size - (items.size - k)) == items.size) = true then _ else _) _ _ s
  split
  · rename_i hw
    simp only [Bool.and_eq_true, beq_iff_eq] at hw
    refine wpAny_bind (m := Builtin.Tuple.tupleIsExact (.ref t)) ?_
    unfold Builtin.Tuple.tupleIsExact
    refine wpAny_bind (wpAny_typeOf ht'.typeIs (wpAny_pure ?_))
    rw [if_pos (by decide)]
    refine wpAny_bind (wpAny_rule ?_)
    exact wpAny_bind (wpAny_pure (wpAny_pure ⟨_, rfl, wpAny_pure (h1 (by omega))⟩))
  · show wpAny _ _ (Builtin.Tuple.tupleExact _ >>= fun v => ret v) _ _ s
    rw [pick_from items (items.size - k) (by omega)]
    exact wpAny_bind (m := Builtin.Tuple.tupleExact _) (wpAny_newObj_type (wpAny_pure ⟨_, rfl, wpAny_pure h2⟩) hdrop)

theorem pySl_neg {α : Type} (xs : List α) (k : Nat) (hk : 1 ≤ k) : pySl xs (some (-(k : Int))) none = xs.drop (xs.length - k) := by
  unfold pySl
  simp only [Option.elim, clipAt_neg _ _ hk]
  exact List.take_of_length_le (by simp)

/-- a slice object stands at sl -/
theorem wpAny_slD {value slice : Expr} {a vl vu : Value} {sl : Addr} {x lo hi z : PyData} (ha : Rd P s.heap a x) (hl : Rd P s.heap vl lo) (hu : Rd P s.heap vu hi) (hs : s.heap.IsSliceOf sl vl vu .none)
    (hz : slD x lo hi = some z) : EvOk prog w A (subscriptTail value slice a (.ref sl)) P s z := by
  intro E
  obtain ⟨ops, hops⟩ := subscripted_ops slice a (.ref sl)
  unfold slD at hz
  split at hz
  · rename_i l u el eu
    have pl := isPart_of hl el
    have pu := isPart_of hu eu
    split at hz
    · cases hz
      cases ha with
      | list p e sz r =>
        refine tail_any (isList_of e).typeIs slot_list_getitem.lookup (wpAny_getItem_list_slice (isList_of e) hs pl pu .none (by simp) ⟨keeps_heap' (Le.push _ _), ?_⟩ (by rw [sizeLine_eq]; omega)) hops
        have hlen := r.length
        rw [Array.length_toList] at hlen
        refine .list (n := 0) (.inr (fresh_size _)) (Heap.get?_push_size _ rfl) ?_ ?_
        · rw [slicePick_plain]; have := pySl_len ‹Array Value›.toList l u; unfold pySl at this; simp only [Array.length_toList] at this; simp only [List.size_toArray]; omega
        · rw [slicePick_plain]
          have q := RdAll.up (s := s) (r.pySl l u) (Le.push s.heap { cls := .type "list", data := .seq (slicePick ‹Array Value› l u none) })
          unfold pySl at q ⊢
          simpa [slicePick_plain] using q
    · split at hz
      · rename_i i
        split at hz
        · rename_i hi
          cases hz
          cases ha with
          | tuple e sz r =>
            have hlen := r.length
            rw [Array.length_toList] at hlen
            obtain ⟨k, hk, rfl⟩ : ∃ k : Nat, 1 ≤ k ∧ i = -(k : Int) := ⟨i.natAbs, by omega, by omega⟩
            cases pl with
            | int i t =>
              cases pu
              refine tail_any (isTup_of e).typeIs slot_tuple_getitem.lookup (getItem_tuple_neg e hk hs (fun hle => ⟨keeps_refl s, ?_⟩) ⟨keeps_heap' (Le.push _ _), ?_⟩ (by rw [sizeLine_eq]; omega)) hops
              · rw [pySl_neg _ _ hk, Nat.sub_eq_zero_of_le (by omega), List.drop_zero]
                exact .tuple e sz (r.up (Le.refl _))
              · rw [pySl_neg _ _ hk]
                refine .tuple (n := 0) (Heap.get?_push_size _ rfl) (by simp; omega) ?_
                rw [← hlen]
                exact (r.drop _).up (Le.push _ _)
        · cases hz
      · cases hz
    · cases hz
  · cases hz

theorem take_pick (m : List Value) : ∀ n, n ≤ m.length → (List.range n).filterMap (fun k => m[k]?) = m.take n
  | 0, _ => rfl
  | n + 1, h => by
    have e : m[n]? = some m[n] := List.getElem?_eq_getElem h
    rw [List.range_succ, List.filterMap_append, take_pick m n (Nat.le_of_succ_le h), List.take_add_one, e, List.filterMap_cons, e]
    rfl
theorem pick_congr {f g : Nat → Option Value} : ∀ {l : List Nat}, (∀ k ∈ l, f k = g k) → l.filterMap f = l.filterMap g
  | [], _ => rfl
  | k :: l, h => by rw [List.filterMap_cons, List.filterMap_cons, h k (List.mem_cons_self ..), pick_congr fun j hj => h j (List.mem_cons_of_mem _ hj)]
theorem rev_pick (items : Array Value) : slicePick items none none (some (-1)) = items.toList.reverse.toArray := by
  have hb : sliceRange ((items.size : Int) - 1) (-1) (-1) = (List.range items.size).map fun k => items.size - 1 - k := by
    unfold sliceRange
    rw [if_neg (by decide)]
    by_cases h0 : items.size = 0
    · rw [h0]; rfl
    · rw [if_pos (by omega)]
      show List.map (fun k : Nat => ((items.size : Int) - 1 + -1 * (k : Int)).toNat) (List.range (((items.size : Int) - 1 - -1 - -1 - 1) / (- -1)).toNat) = _
      rw [show (((items.size : Int) - 1 - -1 - -1 - 1) / (- -1)).toNat = items.size by rw [show (- -1 : Int) = 1 from rfl, Int.ediv_one]; omega]
      exact List.map_congr_left fun k hk => by have := List.mem_range.mp hk; omega
  show ((sliceRange ((items.size : Int) - 1) (-1) (-1)).filterMap (items[·]?)).toArray = _
  rw [hb, List.filterMap_map]
  congr 1
  have := take_pick items.toList.reverse items.size (by simp)
  rw [List.take_of_length_le (by simp)] at this
  rw [← this]
  refine pick_congr fun k hk => ?_
  have hk := List.mem_range.mp hk
  rw [List.getElem?_reverse (by simpa using hk)]
  simp
theorem wpAny_revD {value slice : Expr} {a vs : Value} {sl : Addr} {xs : List PyData} (ha : Rd P s.heap a (.list xs)) (hv : Rd P s.heap vs (.int (-1))) (hs : s.heap.IsSliceOf sl .none .none vs) :
    EvOk prog w A (subscriptTail value slice a (.ref sl)) P s (.list xs.reverse) := by
  intro E
  obtain ⟨ops, hops⟩ := subscripted_ops slice a (.ref sl)
  cases hv
  cases ha with
  | list p e sz r =>
    refine tail_any (isList_of e).typeIs slot_list_getitem.lookup (wpAny_getItem_list_slice (isList_of e) hs .none .none (.int _ _) (by decide) ⟨keeps_heap' (Le.push _ _), ?_⟩ (by rw [sizeLine_eq]; omega)) hops
    rw [rev_pick]
    refine .list (n := 0) (.inr (fresh_size _)) (Heap.get?_push_size _ rfl) (by simpa using sz) ?_
    exact (r.reverse).up (Le.push _ _)
end
end Mine
end

section
open PySem PyProof.Rows PySem.W
set_option Elab.async false
set_option linter.unusedVariables false
set_option linter.unusedSimpArgs false
namespace Mine
section
variable {S : Sys} {prog : Program} {w : World} {A : Around} {P : Addr → Prop} {s : Shared} {E : Value → Shared → Prop}

noncomputable def valOf (xs : List PyData) (i : Nat) : Int := match xs[i]? with | some (.int k) => k | _ => 0

theorem preSum_cons (f : Nat → Int) : ∀ n, preSum f (n + 1) = f 0 + preSum (fun i => f (i + 1)) n
  | 0 => by simp [preSum]
  | n + 1 => by
    rw [preSum, preSum_cons f n, preSum]
    omega
theorem preSum_bound (f : Nat → Int) (B : Int) (hB : 0 ≤ B) (hf : ∀ i, -B ≤ f i ∧ f i ≤ B) : ∀ n : Nat, -(B * n) ≤ preSum f n ∧ preSum f n ≤ B * n
  | 0 => by simp [preSum]
  | n + 1 => by
    have h := preSum_bound f B hB hf n
    have h2 := hf n
    have e : B * ((n + 1 : Nat) : Int) = B * (n : Int) + B := by rw [Int.natCast_add, Int.mul_add]; simp
    rw [preSum, e]
    omega
theorem sumInts_spec : ∀ {xs : List PyData} {r : Int}, sumInts xs = some r → preSum (valOf xs) xs.length = r ∧ (∀ i : Nat, i < xs.length → ∃ k : Int, xs[i]? = some (PyData.int k)) ∧ ∀ i : Nat, -1000000000 ≤ valOf xs i ∧ valOf xs i ≤ 1000000000
  | [], r, h => by
    simp [sumInts] at h; subst h
    refine ⟨rfl, fun i hi => absurd hi (Nat.not_lt_zero _), fun i => ?_⟩
    simp [valOf]
  | .int k :: xs, r, h => by
    unfold sumInts at h
    split at h
    · rename_i hs
      simp only [small, Bool.and_eq_true, decide_eq_true_eq] at hs
      cases q : sumInts xs with
      | none => rw [q] at h; cases h
      | some r' =>
        rw [q] at h
        simp at h
        obtain ⟨h1, h2, h3⟩ := sumInts_spec q
        refine ⟨?_, fun i hi => ?_, fun i => ?_⟩
        · rw [List.length_cons, preSum_cons]
          have e : (fun i => valOf (.int k :: xs) (i + 1)) = valOf xs := by funext i; simp [valOf]
          rw [e, h1]
          simpa [valOf] using h
        · cases i with
          | zero => exact ⟨k, rfl⟩
          | succ i => simpa using h2 i (by simpa using hi)
        · cases i with
          | zero => simpa [valOf] using hs
          | succ i => simpa [valOf] using h3 i
    · cases h
  | .none :: _, _, h => by simp [sumInts] at h
  | .bool _ :: _, _, h => by simp [sumInts] at h
  | .str _ :: _, _, h => by simp [sumInts] at h
  | .list _ :: _, _, h => by simp [sumInts] at h
  | .tuple _ :: _, _, h => by simp [sumInts] at h
  | .dict _ :: _, _, h => by simp [sumInts] at h

theorem wpAny_sumD {n : Nat} (R : Room n A) {a : Value} {xs : List PyData} {r : Int} (ha : Rd P s.heap a (.list xs)) (hz : sumInts xs = some r) : EvOk prog w A (call (.builtin "sum") [a]) P s (.int r) := by
  intro E
  obtain ⟨h1, h2, h3⟩ := sumInts_spec hz
  cases ha with
  | @list l vs n' _ p e sz q =>
    have hlen := q.length
    rw [Array.length_toList] at hlen
    have hne : l ≠ s.heap.objs.size := Nat.ne_of_lt (Heap.lt_size e)
    refine call_sum_walk (wpAny_pyIter_list (isList_of e) ⟨s.heap.objs.size, _, _, _, _, _, valOf xs, rfl, Walks.list (show A.in1.handled = none from R.hd) s.heap.objs.size l hne vs, ⟨⟨_, Heap.get?_push_size _ rfl, rfl, rfl⟩, (isList_of e).push _⟩, ?_, ?_, ?_, ?_⟩)
    · intro b hb
      show b < (s.heap.push _).objs.size
      rw [Heap.size_push]
      rcases List.mem_cons.mp hb with rfl | hb
      · exact Nat.lt_succ_self _
      · rw [List.mem_singleton.mp hb]; exact Nat.lt_succ_of_lt (Heap.lt_size e)
    · intro i v hv
      have hv' : vs.toList[i]? = some v := by simpa using hv
      obtain ⟨d, hd, hr⟩ := q.getv hv'
      have hi := (List.getElem?_eq_some_iff.mp hd).1
      obtain ⟨k, hk⟩ := h2 i hi
      rw [hk] at hd; cases hd
      cases hr
      exact ⟨_, by rw [show valOf xs i = k by simp [valOf, hk]]⟩
    · intro j hj
      have b1 := h3 j
      have b2 := preSum_bound (valOf xs) 1000000000 (by decide) h3 (j + 1)
      have e1 : ((j + 1 : Nat) : Int) ≤ 1000000 := by omega
      have b3 : 1000000000 * ((j + 1 : Nat) : Int) ≤ 1000000000000000 := by omega
      refine ⟨⟨?_, ?_⟩, ?_, ?_⟩
      · exact Int.le_trans (by decide) b1.1
      · exact Int.lt_of_le_of_lt b1.2 (by decide)
      · exact Int.le_trans (by decide) (Int.le_trans (Int.neg_le_neg b3) b2.1)
      · exact Int.lt_of_le_of_lt (Int.le_trans b2.2 b3) (by decide)
    · intro h' tk t' hk
      rw [hlen, h1]
      refine ⟨⟨h', tk, rfl, fun b o eb => hk b o ?_ (Heap.get?_push_of_some _ eb)⟩, .int _ _⟩
      intro hm
      rw [List.mem_singleton.mp hm, fresh_size] at eb
      cases eb

theorem sumLists_take : ∀ {xs : List PyData} {ys : List PyData}, sumLists xs = some ys → ∀ i : Nat, i ≤ xs.length → ∃ zs, sumLists (xs.take i) = some zs ∧ zs.length ≤ ys.length
  | [], ys, h, i, hi => ⟨[], by simp [sumLists], Nat.zero_le _⟩
  | .list x :: xs, ys, h, 0, hi => ⟨[], by simp [sumLists], Nat.zero_le _⟩
  | .list x :: xs, ys, h, i + 1, hi => by
    unfold sumLists at h
    cases q : sumLists xs with
    | none => rw [q] at h; cases h
    | some r =>
      rw [q] at h; simp at h; subst h
      obtain ⟨zs, h1, h2⟩ := sumLists_take q i (by simpa using hi)
      exact ⟨x ++ zs, by simp [sumLists, h1], by simp; omega⟩
  | .none :: _, _, h, _, _ => by simp [sumLists] at h
  | .bool _ :: _, _, h, _, _ => by simp [sumLists] at h
  | .str _ :: _, _, h, _, _ => by simp [sumLists] at h
  | .int _ :: _, _, h, _, _ => by simp [sumLists] at h
  | .tuple _ :: _, _, h, _, _ => by simp [sumLists] at h
  | .dict _ :: _, _, h, _, _ => by simp [sumLists] at h
theorem sumLists_snoc : ∀ {xs : List PyData} {ys zs : List PyData}, sumLists xs = some ys → sumLists (xs ++ [.list zs]) = some (ys ++ zs)
  | [], ys, zs, h => by simp [sumLists] at h; subst h; simp [sumLists]
  | .list x :: xs, ys, zs, h => by
    unfold sumLists at h
    cases q : sumLists xs with
    | none => rw [q] at h; cases h
    | some r =>
      rw [q] at h; simp at h; subst h
      simp [sumLists, sumLists_snoc q]
  | .none :: _, _, _, h => by simp [sumLists] at h
  | .bool _ :: _, _, _, h => by simp [sumLists] at h
  | .str _ :: _, _, _, h => by simp [sumLists] at h
  | .int _ :: _, _, _, h => by simp [sumLists] at h
  | .tuple _ :: _, _, _, h => by simp [sumLists] at h
  | .dict _ :: _, _, _, h => by simp [sumLists] at h
theorem sumLists_lists : ∀ {xs : List PyData} {ys : List PyData}, sumLists xs = some ys → ∀ d ∈ xs, ∃ zs, d = .list zs
  | [], ys, h, d, hd => by cases hd
  | .list x :: xs, ys, h, d, hd => by
    unfold sumLists at h
    cases q : sumLists xs with
    | none => rw [q] at h; cases h
    | some r =>
      rcases List.mem_cons.mp hd with rfl | hd
      · exact ⟨_, rfl⟩
      · exact sumLists_lists q d hd
  | .none :: _, _, h, _, _ => by simp [sumLists] at h
  | .bool _ :: _, _, h, _, _ => by simp [sumLists] at h
  | .str _ :: _, _, h, _, _ => by simp [sumLists] at h
  | .int _ :: _, _, h, _, _ => by simp [sumLists] at h
  | .tuple _ :: _, _, h, _, _ => by simp [sumLists] at h
  | .dict _ :: _, _, h, _, _ => by simp [sumLists] at h

theorem codeAny_sum_lists {l I T : Addr} {vs : Array Value} {n' : Nat} {xs ys : List PyData} {s₀ : Shared} {R : Result → Shared → Prop} (hh : A.handled = none) (hIT : I ≠ T) (hfI : s₀.heap.get? I = none) (hfT : s₀.heap.get? T = none)
    (el : s₀.heap.get? l = some (lob vs n')) (q : RdAll P s₀.heap vs.toList xs) (hys : sumLists xs = some ys) (hsz : ys.length ≤ 1000000) :
    ∀ (k i : Nat) (h : Heap) (tk : Nat) (t : Addr) (us : Array Value) (m c : Nat) (acc : List PyData), xs.length - i = k → i ≤ xs.length → Le s₀.heap h → h.IsListIter I l i → h.get? T = some { cls := .type "list", data := .seq #[.ref t] c } →
    h.get? t = some (lob us m) → t ≠ T → t ≠ I → Up P s₀ t → sumLists (xs.take i) = some acc → RdAll P s₀.heap us.toList acc →
    (∀ h' tk' t us m, Le s₀.heap h' → h'.get? t = some (lob us m) → Up P s₀ t → RdAll P s₀.heap us.toList ys → R (.ok (.ret (.ref t))) { s₀ with heap := h', toks := tk' }) →
    codeAny (model prog w) A (.builtin "sum.loop" ⟨[.ref I, .ref T, rawInt 2, rawInt 0], []⟩) R { s₀ with heap := h, toks := tk } := by
  have hlen := q.length
  rw [Array.length_toList] at hlen
  intro k
  induction k with
  | zero =>
    intro i h tk t us m c acc hk hi hle hit hT ht htT htI htf hacc hr hR
    have hin : i = xs.length := by omega
    subst hin
    refine codeAny_builtin F.entry_sum_loop ?_
    rw [Around.under_plainId F.plain_sum_loop _]
    show wpAny _ A.in1 (seqItems? (.ref T) >>= _) _ _ _
    refine wpAny_bind (wpAny_seqItems hT rfl ?_)
    show wpAny _ A.in1 (tryCatch (pyNext (.ref I)) _ >>= _) _ _ _
    refine wpAny_bind (wpAny_tryCatch (wpAny_pyNext_list_end (s := { s₀ with heap := h, toks := tk }) (show A.in1.handled = none from hh) hit (isList_of (hle _ _ el)) (by simp [hlen]) fun h' he => ?_))
    rw [List.take_length, hys] at hacc
    cases hacc
    have hk' : Le s₀.heap h' := fun b o e => he b o (fun z => by rw [z, hfI] at e; cases e) (hle b o e)
    exact wpAny_pure (hR h' tk t us m hk' (he _ _ htI ht) htf hr)
  | succ k ih =>
    intro i h tk t us m c acc hk hi hle hit hT ht htT htI htf hacc hr hR
    have hlt : i < xs.length := by omega
    obtain ⟨d, hd⟩ : ∃ d, xs[i]? = some d := ⟨_, List.getElem?_eq_getElem hlt⟩
    obtain ⟨zs, rfl⟩ := sumLists_lists hys d (List.mem_of_getElem? hd)
    obtain ⟨v, hv, hrv⟩ := q.get hd
    have htake : xs.take (i + 1) = xs.take i ++ [.list zs] := by rw [List.take_add_one, hd]; rfl
    have hacc' : sumLists (xs.take (i + 1)) = some (acc ++ zs) := by rw [htake]; exact sumLists_snoc hacc
    obtain ⟨_, hz1, hz2⟩ := sumLists_take hys (i + 1) hlt
    rw [hacc'] at hz1
    cases hz1
    refine codeAny_builtin F.entry_sum_loop ?_
    rw [Around.under_plainId F.plain_sum_loop _]
    show wpAny _ A.in1 (seqItems? (.ref T) >>= _) _ _ _
    refine wpAny_bind (wpAny_seqItems hT rfl ?_)
    show wpAny _ A.in1 (tryCatch (pyNext (.ref I)) _ >>= _) _ _ _
    refine wpAny_bind (wpAny_tryCatch (wpAny_pyNext_list_item (s := { s₀ with heap := h, toks := tk }) hit (isList_of (hle _ _ el)) (x := v) (by simpa using hv) fun h1 hit1 hs1 => ?_))
    have hk1 : Le s₀.heap h1 := fun b o e => hs1.extBut b o (fun z => by rw [z, hfI] at e; cases e) (hle b o e)
    have hT1 : h1.get? T = some { cls := .type "list", data := .seq #[.ref t] c } := hs1.extBut _ _ (Ne.symm hIT) hT
    have ht1 : h1.get? t = some (lob us m) := hs1.extBut _ _ htI ht
    cases hrv with
    | @list a ws n2 _ pa ea sz2 r2 =>
      have l1 := hr.length
      have l2 := r2.length
      rw [Array.length_toList] at l1 l2
      rw [List.length_append] at hz2
      show wpAny _ A.in1 (Sem.attempt (holding [.ref a] (binaryOp .Add (.ref t) (.ref a))) >>= _) _ _ _
      refine wpAny_bind (wpAny_attempt (wpAny_holding (_root_.PySem.P.add_list (s := { s₀ with heap := h1, toks := tk }) ht1 (hk1 _ _ ea) ?_ (by rw [sizeLine_eq]; omega))))
      have hT2 : (h1.push { cls := .type "list", data := .seq (us ++ ws) }).get? T = some { cls := .type "list", data := .seq #[.ref t] c } := Heap.get?_push_of_some _ hT1
      show wpAny _ A.in1 (updateSeq T (fun _ => #[.ref h1.objs.size]) >>= _) _ _ _
      refine wpAny_bind (wpAny_updateSeq hT2 rfl ?_)
      have hT3 := Heap.get?_update_self (Obj.mapSeq fun _ => #[Value.ref h1.objs.size]) hT2 rfl
      refine wpAny_bind (wpAny_letGo ?_)
      have up2 : ∀ b o, b ≠ T → h1.get? b = some o → (((h1.push { cls := .type "list", data := .seq (us ++ ws) }).update T (Obj.mapSeq fun _ => #[Value.ref h1.objs.size])).update T (Obj.mapSeq fun _ => #[Value.ref h1.objs.size])).get? b = some o := fun b o hb e =>
        (Heap.get?_update_other _ _ (Ne.symm hb)).trans ((Heap.get?_update_other _ _ (Ne.symm hb)).trans (Heap.get?_push_of_some _ e))
      have hTs : T ≠ h1.objs.size := Nat.ne_of_lt (Heap.lt_size hT1)
      have new : (((h1.push { cls := .type "list", data := .seq (us ++ ws) }).update T (Obj.mapSeq fun _ => #[Value.ref h1.objs.size])).update T (Obj.mapSeq fun _ => #[Value.ref h1.objs.size])).get? h1.objs.size = some (lob (us ++ ws) 0) :=
        (Heap.get?_update_other _ _ hTs).trans ((Heap.get?_update_other _ _ hTs).trans (Heap.get?_push_size _ rfl))
      refine wpAny_bind (wpAny_updateSeq hT3 rfl (wpAny_pure ⟨plainId_quiet F.plain_sum_loop _, ih (i + 1) _ _ h1.objs.size (us ++ ws) 0 _ (acc ++ zs) (by omega) hlt ?_ ?_ (Heap.get?_update_self _ hT3 rfl) new (Ne.symm hTs) ?_ ?_ hacc' ?_ hR⟩))
      · exact fun b o e => up2 b o (fun z => by rw [z, hfT] at e; cases e) (hk1 b o e)
      · exact hit1.at fun o e => up2 _ _ hIT e
      · intro z
        obtain ⟨oI, hoI, _⟩ := hit1
        exact absurd (Heap.lt_size hoI) (by rw [z]; exact Nat.lt_irrefl _)
      · right
        cases q0 : s₀.heap.get? h1.objs.size with
        | none => rfl
        | some o => exact absurd (Heap.lt_size (hk1 _ _ q0)) (Nat.lt_irrefl _)
      · rw [Array.toList_append]
        exact hr.append r2

theorem sub_list_str : isSubtype (.type "list") (.type "str") = pure false := by rw [isSubtype_type]; kernel_rfl
theorem sub_list_bytes : isSubtype (.type "list") (.type "bytes") = pure false := by rw [isSubtype_type]; kernel_rfl
theorem sub_list_bytearray : isSubtype (.type "list") (.type "bytearray") = pure false := by rw [isSubtype_type]; kernel_rfl
theorem args_sum2 (a b : Value) : argsOk "sum" ⟨[a, b], []⟩ := by unfold argsOk; kernel_rfl

theorem wpAny_sumL {n : Nat} (R : Room n A) {a b : Value} {xs ys : List PyData} (ha : Rd P s.heap a (.list xs)) (hb : Rd P s.heap b (.list [])) (hz : sumLists xs = some ys) (hsz : ys.length ≤ 1000000) : EvOk prog w A (call (.builtin "sum") [a, b]) P s (.list ys) := by
  intro E
  cases ha with
  | @list l vs n' _ p e sz q =>
  cases hb with
  | @list t us m _ pt et szt qt =>
    have hne : l ≠ s.heap.objs.size := Nat.ne_of_lt (Heap.lt_size e)
    refine call_function_tree F.kind_sum F.plain_sum F.entry_sum (args_sum2 _ _) ?_
    unfold Builtin.«sum»
    simp only [List.length_cons, List.length_nil]
    rw [if_neg (by decide)]
    refine wpAny_bind (wpAny_of_eq (show Builtin.Builtins.bindParams "sum" ["start"] 0 ⟨[.ref t], []⟩ = pure [some (.ref t)] from rfl) ?_)
    refine wpAny_bind (wpAny_pyIter_list (isList_of e) ?_)
    refine wpAny_bind (wpAny_pure ?_)
    simp only [List.forIn_cons, List.forIn_nil]
    have ht : ∀ h' : Heap, Le s.heap h' → ∀ tk : Nat, ({ s with heap := h', toks := tk } : Shared).TypeIs (.ref t) "list" := fun h' hk tk => ⟨_, hk _ _ et, rfl⟩
    have k1 : Le s.heap (s.heap.push { cls := .type "list_iterator", data := .fields #[.ref l, .int 0 0] }) := Le.push _ _
    refine wpAny_bind (wpAny_bind (wpAny_bind (wpAny_isInstance (T := "list") (b := false) (ht _ k1 s.toks) sub_list_str ?_)))
    simp only [Bool.false_eq_true, if_false]
    refine wpAny_pure (wpAny_bind (wpAny_bind (wpAny_isInstance (T := "list") (b := false) (ht _ k1 s.toks) sub_list_bytes ?_)))
    simp only [Bool.false_eq_true, if_false]
    refine wpAny_pure (wpAny_bind (wpAny_bind (wpAny_isInstance (T := "list") (b := false) (ht _ k1 s.toks) sub_list_bytearray ?_)))
    simp only [Bool.false_eq_true, if_false]
    refine wpAny_pure (wpAny_pure ?_)
    refine wpAny_bind (wpAny_newObj_type ?_)
    have hs1 : (s.heap.push { cls := .type "list_iterator", data := .fields #[.ref l, .int 0 0] }).objs.size = s.heap.objs.size + 1 := Heap.size_push ..
    have ht0 := Heap.lt_size et
    refine wpAny_pure ⟨plainId_quiet F.plain_sum_loop _, codeAny_sum_lists (P := P) (s₀ := s) (I := s.heap.objs.size) (T := (s.heap.push { cls := .type "list_iterator", data := .fields #[.ref l, .int 0 0] }).objs.size) R.hd ?_ (fresh_size _) ?_ e q hz hsz
      xs.length 0 _ _ t us m 0 [] (Nat.sub_zero _) (Nat.zero_le _) (Le.trans k1 (Le.push _ _)) ⟨_, Heap.get?_push_of_some _ (Heap.get?_push_size _ rfl), rfl, rfl⟩ (Heap.get?_push_size _ rfl) (Heap.get?_push_of_some _ (k1 _ _ et)) ?_ ?_ (.inl pt) (by simp [sumLists]) qt ?_⟩
    · rw [hs1]; exact Nat.ne_of_lt (Nat.lt_succ_self _)
    · rw [hs1]
      cases q0 : s.heap.get? (s.heap.objs.size + 1) with
      | none => rfl
      | some o => exact absurd (Heap.lt_size q0) (Nat.not_lt.mpr (Nat.le_succ _))
    · rw [hs1]; exact Nat.ne_of_lt (Nat.lt_succ_of_lt ht0)
    · exact Nat.ne_of_lt ht0
    · intro h' tk' t' us' m' hk ht' hu hr
      refine ⟨⟨h', tk', rfl, hk⟩, .list hu ht' ?_ (hr.up hk)⟩
      have := hr.length
      rw [Array.length_toList] at this
      omega
end
end Mine
end

section
open PySem PyProof.Rows PySem.W
set_option Elab.async false
set_option linter.unusedVariables false
set_option linter.unusedSimpArgs false
namespace Mine

/-- the iterator of a thing whose items are xs -/
noncomputable def IterOk (prog : Program) (w : World) (A : Around) (x : Value) (xs : List PyData) (P : Addr → Prop) (s : Shared) : Prop :=
  ∀ (Q : Value → Shared → Prop) (E : Value → Shared → Prop),
    (∀ s₂ I fp Pi St, Keeps s s₂ → s.heap.get? I = none → (∀ i h, St i h → ∃ o, h.get? I = some o ∧ ItO o) → Walks prog w A I fp [I] xs.length Pi St → St 0 s₂.heap → (∀ b ∈ fp, b = I ∨ ∃ o, s.heap.get? b = some o ∧ (P b ∨ ∃ vs n, o = tob vs n)) →
      (∀ i v, Pi i v → ∃ d, xs[i]? = some d ∧ Rd P s.heap v d) → Q (.ref I) s₂) → wpAny (model prog w) A (pyIter x) Q E s

section
variable {S : Sys} {prog : Program} {w : World} {A : Around} {P : Addr → Prop} {s : Shared} {E : Value → Shared → Prop}

theorem iter_items (hh : A.handled = none) {a : Value} {d : PyData} {xs : List PyData} (r : Rd P s.heap a d) (hx : items d = some xs) : IterOk prog w A a xs P s := by
  intro Q E h
  unfold items at hx
  split at hx
  · cases hx
    cases r with
    | @list l vs n _ p e sz q =>
      have hne : l ≠ s.heap.objs.size := Nat.ne_of_lt (Heap.lt_size e)
      have hlen := q.length
      rw [Array.length_toList] at hlen
      refine wpAny_pyIter_list (isList_of e) ?_
      have W := Walks.list (prog := prog) (w := w) hh s.heap.objs.size l hne vs
      rw [hlen] at W
      refine h _ _ _ _ _ (keeps_heap' (Le.push _ _)) (fresh_size _) (fun i h st => let ⟨⟨o, ho, hc, _⟩, _⟩ := st; ⟨o, ho, _, hc, by decide, by decide, by decide⟩) W ⟨⟨_, Heap.get?_push_size _ rfl, rfl, rfl⟩, (isList_of e).push _⟩ ?_ ?_
      · intro b hb
        rcases List.mem_cons.mp hb with rfl | hb
        · exact .inl rfl
        · rw [List.mem_singleton.mp hb]; exact .inr ⟨_, e, .inl p⟩
      · intro i v hv
        exact q.getv (by simpa using hv)
  · cases hx
    cases r with
    | @tuple l vs n _ e sz q =>
      have hne : l ≠ s.heap.objs.size := Nat.ne_of_lt (Heap.lt_size e)
      have hlen := q.length
      rw [Array.length_toList] at hlen
      have ht : s.heap.IsTuple l vs := ⟨_, e, rfl, _, rfl⟩
      refine wpAny_pyIter_tuple ht ?_
      have W := Walks.tuple (prog := prog) (w := w) hh s.heap.objs.size l hne vs
      rw [hlen] at W
      refine h _ _ _ _ _ (keeps_heap' (Le.push _ _)) (fresh_size _) (fun i h st => let ⟨⟨o, ho, hc, _⟩, _⟩ := st; ⟨o, ho, _, hc, by decide, by decide, by decide⟩) W ⟨⟨_, Heap.get?_push_size _ rfl, rfl, rfl⟩, ht.push _⟩ ?_ ?_
      · intro b hb
        rcases List.mem_cons.mp hb with rfl | hb
        · exact .inl rfl
        · rw [List.mem_singleton.mp hb]; exact .inr ⟨_, e, .inr ⟨_, _, rfl⟩⟩
      · intro i v hv
        exact q.getv (by simpa using hv)
  · cases hx

noncomputable def rangeD (n : Int) : List PyData := (List.range n.toNat).map fun (i : Nat) => PyData.int (i : Int)
theorem iter_range (hh : A.handled = none) {r : Addr} {n : Int} {t u v : Tok} (hr : IsRange s.heap r 0 n 1 t u v) (hn : n ≤ 1000000) (hn0 : -1000000000 ≤ n) : IterOk prog w A (.ref r) (rangeD n) P s := by
  intro Q E h
  refine wpAny_pyIter_range hr (small_one (by omega) (by omega) (by omega) (by omega)) ?_
  have W := (Walks.range (prog := prog) (w := w) hh s.heap.objs.size 0 1 (rangeD n).length).bound
  refine h _ _ _ _ _ (keeps_heap' (Le.push _ _)) (fresh_size _) (fun i h st => ⟨_, st, _, rfl, by decide, by decide, by decide⟩) W ?_ ?_ ?_
  · have e : Builtin.Range.rangeSize 0 n 1 = ((rangeD n).length : Int) := by
      rw [rangeSize_one]
      simp only [rangeD, List.length_map, List.length_range]
      split <;> omega
    show IsRangeIter _ _ _ _ _
    rw [e]
    simpa using Heap.get?_push_size s.heap (o := { cls := .type "range_iterator", data := .fields #[rawInt 0, rawInt ((rangeD n).length : Int), rawInt 1] }) rfl
  · intro b hb
    exact .inl (List.mem_singleton.mp hb)
  · rintro i v' ⟨hi, t', rfl⟩
    refine ⟨.int (i : Int), ?_, ?_⟩
    · have : i < n.toNat := by simpa [rangeD] using hi
      simp [rangeD, this]
    · rw [show (0 : Int) + (i : Int) * 1 = i by omega]; exact .int _ _

noncomputable abbrev testsOf (ifs : List Expr) (env : Env) : Sem Bool := forIn ifs true fun c r => if r = true then do let ok ← isTrue c env (eval c env); pure (ForInStep.yield ok) else pure (ForInStep.yield r)

theorem compGo_snoc (f : PyData → Option Bool) (g : PyData → Option PyData) : ∀ (xs : List PyData) (d : PyData) (out : List PyData), compGo f g xs = some out →
    compGo f g (xs ++ [d]) = match f d with | some true => (match g d with | some y => some (out ++ [y]) | none => none) | some false => some out | none => none
  | [], d, out, h => by
    simp [compGo] at h; subst h
    simp only [List.nil_append, compGo]
    cases f d with
    | none => rfl
    | some b => cases b <;> cases g d <;> simp
  | x :: xs, d, out, h => by
    simp only [List.cons_append, compGo] at h ⊢
    cases hf : f x with
    | none => rw [hf] at h; cases h
    | some b =>
      rw [hf] at h
      cases b with
      | false => simp only at h ⊢; exact compGo_snoc f g xs d out h
      | true =>
        simp only at h ⊢
        cases hg : g x with
        | none => rw [hg] at h; cases h
        | some y =>
          rw [hg] at h
          simp only at h ⊢
          cases hr : compGo f g xs with
          | none => rw [hr] at h; cases h
          | some o2 =>
            rw [hr] at h; simp at h; subst h
            rw [compGo_snoc f g xs d o2 hr]
            cases f d with
            | none => rfl
            | some b => cases b <;> cases g d <;> simp
theorem compGo_take (f : PyData → Option Bool) (g : PyData → Option PyData) : ∀ (xs out : List PyData) (i : Nat), compGo f g xs = some out → ∃ o2, compGo f g (xs.take i) = some o2 ∧ o2.length ≤ (xs.take i).length
  | _, _, 0, _ => ⟨[], rfl, Nat.zero_le _⟩
  | [], out, i + 1, h => ⟨[], by simp [compGo], Nat.zero_le _⟩
  | x :: xs, out, i + 1, h => by
    simp only [List.take_succ_cons, compGo] at h ⊢
    cases hf : f x with
    | none => rw [hf] at h; cases h
    | some b =>
      rw [hf] at h
      cases b with
      | false =>
        simp only at h ⊢
        obtain ⟨o2, h1, h2⟩ := compGo_take f g xs out i h
        exact ⟨o2, h1, Nat.le_succ_of_le h2⟩
      | true =>
        simp only at h ⊢
        cases hg : g x with
        | none => rw [hg] at h; cases h
        | some y =>
          rw [hg] at h
          simp only at h ⊢
          cases hr : compGo f g xs with
          | none => rw [hr] at h; cases h
          | some o2 =>
            obtain ⟨o3, h1, h2⟩ := compGo_take f g xs o2 i hr
            exact ⟨y :: o3, by rw [h1]; rfl, Nat.succ_le_succ h2⟩

theorem comp_loop {elt iter : Expr} {x : Str} {px : Pos} {ifs : List Expr} {scope : Scope} {pos : Pos} {I D : Addr} {fp : List Addr} {xs ys : List PyData} {Pi : Nat → Value → Prop} {St : Nat → Heap → Prop}
    {cenv : Env} {m : Str → Option Value} {R : Result → Shared → Prop} {s s₁ : Shared} (f : PyData → Option Bool) (g : PyData → Option PyData)
    (hI0 : s.heap.get? I = none) (hlive : ∀ i h, St i h → ∃ o, h.get? I = some o ∧ NotSeq o)
    (W : Walks prog w A I fp [I] xs.length Pi St) (hDf : D ∉ fp) (hCf : cenv.locals ∉ fp)
    (hPi : ∀ i v, Pi i v → ∃ d, xs[i]? = some d ∧ Rd P s.heap v d) (hgo : compGo f g xs = some ys)
    (hx : cenv.kindOf x = some .local) (hp : (cenv.scope.kind == .class || (cenv.scope.kind == .module && cenv.locals != cenv.globals)) = false)
    (hDI : D ≠ I) (hCI : cenv.locals ≠ I) (hDC : D ≠ cenv.locals) (hD0 : s.heap.get? D = none) (hC0 : s.heap.get? cenv.locals = none) (hPD : ¬ P D)
    (hst : St 0 s₁.heap) (hacc : s₁.heap.get? D = some (lob #[] 0)) (hn : s₁.heap.Ns cenv.locals m) (hk1 : Le s.heap s₁.heap) (hlen : xs.length ≤ 1000000)
    (htests : ∀ v d b s₃ m₃ E', f d = some b → Rd P s₃.heap v d → s₃.heap.Ns cenv.locals m₃ → m₃ x = some v → Le s.heap s₃.heap →
      wpAny (model prog w) A (testsOf ifs cenv) (fun ok s₄ => ok = b ∧ Keeps s₃ s₄) E' s₃)
    (helt : ∀ v d y s₃ m₃ E', f d = some true → g d = some y → Rd P s₃.heap v d → s₃.heap.Ns cenv.locals m₃ → m₃ x = some v → Le s.heap s₃.heap →
      wpAny (model prog w) A (eval elt cenv) (fun u s₄ => Keeps s₃ s₄ ∧ Rd (Up P s₃) s₄.heap u y) E' s₃)
    (hR : ∀ h' tk m' vs n, h'.Ns cenv.locals m' → h'.get? D = some (lob vs n) → vs.size ≤ 1000000 → RdAll (fun a => Up P s a ∧ a ≠ D) h' vs.toList ys → Le s.heap h' → R (.ok .next) { s₁ with heap := h', toks := tk }) :
    codeAny (model prog w) A (.compLoop (.ListComp elt [⟨.Name x px, iter, ifs, 0⟩] scope pos) 0 (.ref I) (.ref D) cenv) R s₁ := by
  refine codeAny_compLoop_tests
    (fun k s' => ∃ h' tk m' vs n out i, s' = { s₁ with heap := h', toks := tk } ∧ St i h' ∧ h'.get? D = some (lob vs n) ∧ h'.Ns cenv.locals m' ∧ i ≤ xs.length ∧ k = xs.length + 1 - i ∧
      compGo f g (xs.take i) = some out ∧ RdAll (fun a => Up P s a ∧ a ≠ D) h' vs.toList out ∧ Le s.heap h') ?_ (xs.length + 1)
    ⟨s₁.heap, s₁.toks, m, #[], 0, [], 0, rfl, hst, hacc, hn, Nat.zero_le _, rfl, rfl, .nil, hk1⟩
  intro k s' hJ
  refine hide fun X back => ?_
  obtain ⟨H, tk, m', vs, n, out, i, hs', hst', hD', hn', hi, hkk, hout, hrd, hle⟩ := hJ
  obtain ⟨oI, hoI, hnsI⟩ := hlive _ _ hst'
  have keepI : ∀ h₁ : Heap, (∀ b o, b ∉ [I] → H.get? b = some o → h₁.get? b = some o) → Le s.heap h₁ ∧ (∀ vs' ds, RdAll (fun a => Up P s a ∧ a ≠ D) H vs' ds → RdAll (fun a => Up P s a ∧ a ≠ D) h₁ vs' ds) ∧ h₁.get? D = some (lob vs n) ∧ h₁.Ns cenv.locals m' := by
    intro h₁ hk
    refine ⟨fun b o e => hk b o (fun hm => ?_) (hle b o e), fun vs' ds r => r.frame fun a o e ho => hk a o (fun hm => ?_) e, hk _ _ (by simpa using hDI) hD', hn'.at' fun o e => hk _ o (by simpa using hCI) e⟩
    · rw [List.mem_singleton.mp hm, hI0] at e; cases e
    · rw [List.mem_singleton.mp hm, hoI] at e
      cases e
      rcases ho with ⟨_, vs, n, rfl⟩ | ⟨vs, n, rfl⟩
      · exact hnsI.1 _ _ rfl
      · exact hnsI.2 _ _ rfl
  refine back ?_
  clear back
  subst hs' hkk
  by_cases hlt : i < xs.length
  · refine W.item i _ _ _ hlt hst' fun v h₁ tk₁ hPv hst₁ hk₁ => ?_
    refine hide fun X back => ?_
    obtain ⟨d, hd, hrd0⟩ := hPi i v hPv
    obtain ⟨hle₁, hrdk, hD₁, hn₁⟩ := keepI h₁ hk₁
    have htake : xs.take (i + 1) = xs.take i ++ [d] := by rw [List.take_add_one, hd]; rfl
    obtain ⟨o2, ho2, hl2⟩ := compGo_take f g xs ys (i + 1) hgo
    have ho3 := ho2
    rw [htake, compGo_snoc f g _ d out hout] at ho2
    obtain ⟨oC, esC, epC, hoC, hdC, _⟩ := id hn₁
    have hnsC := notSeq_dict hdC
    refine back ?_
    clear back
    refine wpAny_assign_Name (wpAny_storeName_local hx hn₁ (fun h₂ hn₂ hs₂ => ?_) hp)
    have hle₂ : Le s.heap h₂ := fun b o e => hs₂.extBut b o (fun z => by rw [z, hC0] at e; cases e) (hle₁ b o e)
    have hst₂ : St (i + 1) h₂ := W.frame _ _ _ hst₁ fun b hb o e => hs₂.extBut b o (fun z => hCf (z ▸ hb)) e
    have hD₂ : h₂.get? D = some (lob vs n) := hs₂.extBut _ _ hDC hD₁
    have hrd₂ : RdAll (fun a => Up P s a ∧ a ≠ D) h₂ vs.toList out := (hrdk _ _ hrd).frame fun a o e ho => hs₂.extBut a o (fun z => by
      rw [z, hoC] at e
      cases e
      rcases ho with ⟨_, vs, n, rfl⟩ | ⟨vs, n, rfl⟩
      · exact hnsC.1 _ _ rfl
      · exact hnsC.2 _ _ rfl) e
    have hrv : Rd P h₂ v d := hrd0.mono (fun _ _ _ p => p) (.of_le hle₂)
    cases hf : f d with
    | none => rw [hf] at ho2; cases ho2
    | some b =>
      rw [hf] at ho2
      refine wpAny_mono (htests v d b _ _ _ hf hrv hn₂ (by simp) hle₂) (fun ok s₄ h₄ => ?_) fun _ _ e => e
      obtain ⟨rfl, h₄, tk₄, rfl, hk₄⟩ := h₄
      have hst₄ : St (i + 1) h₄ := W.frame _ _ _ hst₂ fun b _ o e => hk₄ b o e
      cases ok with
      | false =>
        simp only [Bool.false_eq_true, if_false]
        exact ⟨xs.length + 1 - (i + 1), by omega, h₄, tk₄, _, vs, n, o2, i + 1, rfl, hst₄, hk₄ _ _ hD₂, hn₂.keeps hk₄, hlt, rfl, ho3, by simp only [Option.some.injEq] at ho2; subst ho2; exact hrd₂.mono (fun _ _ _ p => p) (.of_le hk₄), Le.trans hle₂ hk₄⟩
      | true =>
        simp only [if_true]
        cases hg : g d with
        | none => rw [hg] at ho2; cases ho2
        | some y =>
          rw [hg] at ho2
          simp only [Option.some.injEq] at ho2
          refine wpAny_mono (helt v d y _ _ _ hf hg (hrv.mono (fun _ _ _ p => p) (.of_le hk₄)) (hn₂.keeps hk₄) (by simp) (Le.trans hle₂ hk₄)) (fun u s₅ h₅ => ?_) fun _ _ e => e
          obtain ⟨⟨h₅, tk₅, rfl, hk₅⟩, hru⟩ := h₅
          have hD₅ : h₅.get? D = some (lob vs n) := hk₅ _ _ (hk₄ _ _ hD₂)
          have hle₅ : Le s.heap h₅ := Le.trans hle₂ (Le.trans hk₄ hk₅)
          have hvl := hrd.length
          rw [Array.length_toList] at hvl
          have hol : out.length ≤ i := by
            obtain ⟨o4, h4, h5⟩ := compGo_take f g xs ys i hgo
            rw [hout] at h4; cases h4
            rw [List.length_take] at h5
            omega
          refine wpAny_list_append_plain (hsz := by rw [sizeLine_eq]; omega) ⟨n, hD₅⟩ fun h₆ hl₆ hs₆ => ?_
          obtain ⟨n6, hD₆⟩ := hl₆
          have hup : ∀ vs' ds, RdAll (fun a => Up P s a ∧ a ≠ D) h₅ vs' ds → RdAll (fun a => Up P s a ∧ a ≠ D) h₆ vs' ds := fun vs' ds r => r.frame fun a o e ho => hs₆.extBut a o (fun z => by
            rcases ho with ⟨⟨_, hne⟩, _⟩ | ⟨ws, n, rfl⟩
            · exact hne z
            · rw [z, hD₅] at e; simp at e) e
          refine ⟨xs.length + 1 - (i + 1), by omega, h₆, tk₅, _, vs.push u, n6, o2, i + 1, rfl, ?_, hD₆, ((hn₂.keeps hk₄).keeps hk₅).sameBut hs₆ (Ne.symm hDC), hlt, rfl, ho3, ?_, ?_⟩
          · exact W.frame _ _ _ (W.frame _ _ _ hst₄ fun b _ o e => hk₅ b o e) fun b hb o e => hs₆.extBut b o (fun z => hDf (z ▸ hb)) e
          · subst ho2
            rw [Array.toList_push]
            refine hup _ _ ((hrd₂.mono (fun _ _ _ p => p) (.of_le (Le.trans hk₄ hk₅))).append (.cons (hru.mono (fun a o _ pa => ?_) (.of_le (Le.refl _))) .nil))
            rcases pa with pa | pa
            · exact ⟨.inl pa, fun z => hPD (z ▸ pa)⟩
            · refine ⟨.inr ?_, fun z => ?_⟩
              · cases q : s.heap.get? a with
                | none => rfl
                | some o => rw [show ({ s₁ with heap := h₄, toks := tk₄ } : Shared).heap.get? a = some o from hk₄ _ _ (hle₂ _ _ q)] at pa; cases pa
              · rw [z, show ({ s₁ with heap := h₄, toks := tk₄ } : Shared).heap.get? D = _ from hk₄ _ _ hD₂] at pa; cases pa
          · exact fun b o e => hs₆.extBut b o (fun z => by rw [z, hD0] at e; cases e) (hle₅ b o e)
  · have hin : i = xs.length := by omega
    subst hin
    refine W.done _ _ _ hst' fun h₁ tk₁ hk₁ => ?_
    obtain ⟨hle₁, hrdk, hD₁, hn₁⟩ := keepI h₁ hk₁
    rw [List.take_length, hgo] at hout
    cases hout
    obtain ⟨o4, h4, h5⟩ := compGo_take f g xs ys xs.length hgo
    rw [List.take_length, hgo] at h4; cases h4
    rw [List.take_length] at h5
    have hvl := hrd.length
    rw [Array.length_toList] at hvl
    exact hR h₁ tk₁ m' vs n hn₁ hD₁ (by omega) (hrdk _ _ hrd) hle₁
end
end Mine
end

section
open PySem PyProof.Rows PySem.W
set_option Elab.async false
set_option linter.unusedVariables false
set_option linter.unusedSimpArgs false
namespace Mine
section
variable {S : Sys} {prog : Program} {w : World} {A : Around} {P : Addr → Prop} {s : Shared} {E : Value → Shared → Prop}

theorem comp_block {elt iter : Expr} {x : Str} {px : Pos} {ifs : List Expr} {scope : Scope} {cl : List (Str × Addr)} {env : Env} {pos : Pos} {I : Addr} {fp : List Addr} {xs ys : List PyData} {Pi : Nat → Value → Prop} {St : Nat → Heap → Prop}
    {s₂ : Shared} {RR : Value → Addr → Result → Shared → Prop} (f : PyData → Option Bool) (g : PyData → Option PyData)
    (hk0 : Keeps s s₂) (hI0 : s.heap.get? I = none) (hlive : ∀ i h, St i h → ∃ o, h.get? I = some o ∧ NotSeq o)
    (W : Walks prog w A I fp [I] xs.length Pi St) (hfp : ∀ b ∈ fp, b = I ∨ ∃ o, s.heap.get? b = some o)
    (hPi : ∀ i v, Pi i v → ∃ d, xs[i]? = some d ∧ Rd P s.heap v d) (hgo : compGo f g xs = some ys)
    (hcell : ∀ y ∈ scope.names, y.2 ≠ .cell) (hkind : scope.kind = .function) (hx : scope.names.lookup x = some .local)
    (hst : St 0 s₂.heap) (hlen : xs.length ≤ 1000000) (hP : ∀ a, P a → ∃ o, s.heap.get? a = some o)
    (htests : ∀ C v d b s₃ m₃ E', f d = some b → Rd P s₃.heap v d → s₃.heap.Ns C m₃ → m₃ x = some v → Le s.heap s₃.heap →
      wpAny (model prog w) A (testsOf ifs (compEnvC scope cl C env)) (fun ok s₄ => ok = b ∧ Keeps s₃ s₄) E' s₃)
    (helt : ∀ C v d y s₃ m₃ E', f d = some true → g d = some y → Rd P s₃.heap v d → s₃.heap.Ns C m₃ → m₃ x = some v → Le s.heap s₃.heap →
      wpAny (model prog w) A (eval elt (compEnvC scope cl C env)) (fun u s₄ => Keeps s₃ s₄ ∧ Rd (Up P s₃) s₄.heap u y) E' s₃)
    (hRR : ∀ D C h' tk m', s.heap.get? D = none → s.heap.get? C = none → h'.Ns C m' → (∀ h'', Heap.SameBut C h' h'' → Le s.heap h'' ∧ Rd (Up P s) h'' (.ref D) (.list ys)) → Rd (Up P s) h' (.ref D) (.list ys) → Le s.heap h' → RR (.ref D) C (.ok .next) { s₂ with heap := h', toks := tk }) :
    wpAny (model prog w) A (newList []) (fun acc s₃ => wpAny (model prog w) A (newFunctionEnv scope env.globals cl [] env.qual none .none (some env)) (fun cenv s₄ =>
      codeAny (model prog w) A (.compStart (.ListComp elt [⟨.Name x px, iter, ifs, 0⟩] scope pos) 0 (.ref I) acc { cenv with scope := relabel scope env }) (RR acc cenv.locals) s₄) E s₃) E s₂ := by
  obtain ⟨h₂, tk₂, rfl, hk02⟩ := hk0
  refine wpAny_newObj_type (wpAny_newFunctionEnv hcell (by intro y hy; simp at hy) (fun h₁ hns₁ hsb₁ => ?_) hkind)
  dsimp only at hns₁ hsb₁ ⊢
  generalize hH2 : h₂.push { cls := .type "list", dict := none, data := .seq ([] : List Value).toArray } = H2 at hns₁ hsb₁ ⊢
  have hC : H2.objs.size = h₂.objs.size + 1 := by rw [← hH2, Heap.size_push]
  have hDC : h₂.objs.size ≠ H2.objs.size := by rw [hC]; exact Nat.ne_of_lt (Nat.lt_succ_self _)
  have old : Le h₂ h₁ := fun b o e => hsb₁.extBut b o (by rw [hC]; exact Nat.ne_of_lt (Nat.lt_succ_of_lt (Heap.lt_size e))) (Heap.get?_push_of_some _ (hH2 ▸ Heap.get?_push_of_some _ e))
  have hacc : h₁.get? h₂.objs.size = some (lob #[] 0) := hsb₁.extBut _ _ hDC (Heap.get?_push_of_some _ (hH2 ▸ Heap.get?_push_size _ rfl))
  have hst₁ : St 0 h₁ := W.frame _ _ _ hst fun b _ o e => old b o e
  have fresh : ∀ a, h₂.objs.size ≤ a → s.heap.get? a = none := fun a ha => by
    cases e : s.heap.get? a with
    | none => rfl
    | some o' => exact absurd (Heap.lt_size (hk02 _ _ e)) (Nat.not_lt.mpr ha)
  obtain ⟨oI, hoI, _⟩ := hlive _ _ hst
  have hIlt := Heap.lt_size hoI
  have nf : ∀ a, h₂.objs.size ≤ a → a ∉ fp := fun a ha hm => by
    rcases hfp a hm with e | ⟨o, e⟩
    · rw [e] at ha; exact absurd hIlt (Nat.not_lt.mpr ha)
    · exact absurd (Heap.lt_size (hk02 _ _ e)) (Nat.not_lt.mpr ha)
  have hCle : h₂.objs.size ≤ H2.objs.size := by rw [hC]; exact Nat.le_succ _
  have hPD : ¬ P h₂.objs.size := fun hp => by
    obtain ⟨o, e⟩ := hP _ hp
    rw [fresh _ (Nat.le_refl _)] at e; cases e
  have loop : ∀ s₃ : Shared, s₃ = { s with heap := h₁, toks := tk₂ + ([] : List (Str × Value)).length } →
      codeAny (model prog w) A (.compLoop (.ListComp elt [⟨.Name x px, iter, ifs, 0⟩] scope pos) 0 (.ref I) (.ref h₂.objs.size) (compEnvC scope cl H2.objs.size env))
        (RR (.ref h₂.objs.size) H2.objs.size) s₃ := by
    rintro s₃ rfl
    refine comp_loop (P := P) (s := s) (cenv := compEnvC scope cl H2.objs.size env) f g hI0 hlive W (nf _ (Nat.le_refl _)) (nf _ hCle) hPi hgo (lookup_relabel_local hx) (by simp [compEnvC, relabel, hkind])
      (Nat.ne_of_gt hIlt) (Nat.ne_of_gt (Nat.lt_of_lt_of_le hIlt hCle)) hDC (fresh _ (Nat.le_refl _)) (fresh _ hCle) hPD hst₁ hacc hns₁ (Le.trans hk02 old) hlen
      (fun v d b s₃ m₃ E' => htests _ v d b s₃ m₃ E') (fun v d y s₃ m₃ E' => helt _ v d y s₃ m₃ E') fun h' tk m' vs n hn hD hsz hr hle => ?_
    have mk : ∀ h'', RdAll (fun a => Up P s a ∧ a ≠ h₂.objs.size) h'' vs.toList ys → h''.get? h₂.objs.size = some (lob vs n) → Rd (Up P s) h'' (.ref h₂.objs.size) (.list ys) := fun h'' r e =>
      .list (.inr (fresh _ (Nat.le_refl _))) e hsz (r.mono (fun _ _ _ p => p.1) (.of_le (Le.refl _)))
    refine hRR _ _ h' tk m' (fresh _ (Nat.le_refl _)) (fresh _ hCle) hn (fun h'' hs => ⟨fun b o e => hs.extBut b o (fun z => ?_) (hle b o e), mk _ (hr.frame fun a o e ho => hs.extBut a o (fun z => ?_) e) (hs.extBut _ _ hDC hD)⟩) (mk _ hr hD) hle
    · rw [z, fresh _ hCle] at e; cases e
    · obtain ⟨oC, esC, epC, hoC, hdC, _⟩ := id hn
      have hnsC := notSeq_dict hdC
      rw [z, show h'.get? H2.objs.size = _ from hoC] at e
      cases e
      rcases ho with ⟨_, vs, n, rfl⟩ | ⟨vs, n, rfl⟩
      · exact hnsC.1 _ _ rfl
      · exact hnsC.2 _ _ rfl
  exact codeAny_compStart_list (loop _ rfl) (W.self 0 _ _ _ hst₁ (loop _ rfl))

/-- the source of a loop -/
noncomputable def SrcOk (prog : Program) (w : World) (A : Around) (t : Sem Value) (P : Addr → Prop) (s : Shared) (xs : List PyData) : Prop :=
  ∀ (Q : Value → Shared → Prop) (E : Value → Shared → Prop), (∀ v s₁, Keeps s s₁ → IterOk prog w A v xs (Up P s) s₁ → xs.length ≤ 1000000 → Q v s₁) → wpAny (model prog w) A t Q E s

theorem src_items (hh : A.handled = none) {t : Sem Value} {d : PyData} {xs : List PyData} (h : EvOk prog w A t P s d) (hx : items d = some xs) : SrcOk prog w A t P s xs := fun Q E k => by
  refine wpAny_mono (h E) (fun v s' ⟨a, r⟩ => k v s' a (iter_items hh r hx) ?_) fun _ _ x => x
  unfold items at hx
  split at hx
  · cases hx; cases r with | list _ _ sz q => have := q.length; rw [Array.length_toList] at this; omega
  · cases hx; cases r with | tuple _ sz q => have := q.length; rw [Array.length_toList] at this; omega
  · cases hx

noncomputable def closF (cells : List (Str × Addr)) : List (Str × NameKind) → List (Str × Addr) → List (Str × Addr)
  | [], acc => acc
  | (n, k) :: r, acc => closF cells r (if k == .free then (n, (cells.lookup n).getD 0) :: acc else acc)
theorem closF_lookup (cells : List (Str × Addr)) (y : Str) : ∀ (names : List (Str × NameKind)) (acc : List (Str × Addr)),
    ((y, NameKind.free) ∈ names ∨ acc.lookup y = some ((cells.lookup y).getD 0)) → (closF cells names acc).lookup y = some ((cells.lookup y).getD 0)
  | [], acc, h => by
    rcases h with h | h
    · cases h
    · exact h
  | (n, k) :: r, acc, h => by
    unfold closF
    refine closF_lookup cells y r _ ?_
    by_cases hk : (k == NameKind.free) = true
    · rw [if_pos hk]
      by_cases hy : (y == n) = true
      · right
        rw [List.lookup_cons, hy]
        rw [show y = n from beq_iff_eq.mp hy]
      · rcases h with h | h
        · rcases List.mem_cons.mp h with e | h
          · cases e; simp at hy
          · exact .inl h
        · right
          rw [List.lookup_cons]
          simp only [hy]
          exact h
    · rw [if_neg hk]
      rcases h with h | h
      · rcases List.mem_cons.mp h with e | h
        · cases e; exact absurd rfl hk
        · exact .inl h
      · exact .inr h
theorem closureFor_closF {scope : Scope} {env : Env} (h : ∀ y ∈ scope.names, y.2 = .free → (env.cells.lookup y.1).isSome = true) : closureFor scope env = pure (closF env.cells scope.names []) := by
  have key : ∀ (names : List (Str × NameKind)) (acc : List (Str × Addr)), (∀ y ∈ names, y.2 = .free → (env.cells.lookup y.1).isSome = true) →
      (forIn names acc fun (x : Str × NameKind) cs => if (x.2 == NameKind.free) = true then (do let a ← cellOf env x.1; pure (ForInStep.yield ((x.1, a) :: cs)) : Sem (ForInStep (List (Str × Addr)))) else pure (ForInStep.yield cs)) = pure (closF env.cells names acc) := by
    intro names
    induction names with
    | nil => intro acc _; rfl
    | cons y r ih =>
      intro acc h
      obtain ⟨n, k⟩ := y
      rw [List.forIn_cons]
      unfold closF
      by_cases hk : (k == NameKind.free) = true
      · simp only [hk, if_true]
        obtain ⟨a, ha⟩ := Option.isSome_iff_exists.mp (h (n, k) List.mem_cons_self (by simpa using hk))
        have hc : cellOf env n = pure a := by unfold cellOf; rw [ha]
        rw [hc, ha]
        exact ih _ fun y hy => h y (List.mem_cons_of_mem _ hy)
      · simp only [hk, if_false]
        exact ih _ fun y hy => h y (List.mem_cons_of_mem _ hy)
  unfold closureFor
  have := key scope.names [] h
  simpa using congrArg (fun t => t >>= pure) this
end
end Mine
end

section
open PySem PyProof.Rows PySem.W
set_option Elab.async false
set_option linter.unusedVariables false
set_option linter.unusedSimpArgs false
namespace Mine
section
variable {S : Sys} {prog : Program} {w : World} {A : Around} {P : Addr → Prop} {s : Shared} {E : Value → Shared → Prop} {env : Env}

theorem EvOk.after {t : Sem Value} {d : PyData} {s' : Shared} (k : Keeps s s') (h : EvOk prog w A t (Up P s) s' d) : wpAny (model prog w) A t (fun v s'' => Keeps s s'' ∧ Rd (Up P s) s''.heap v d) E s' :=
  wpAny_mono (h E) (fun v s'' ⟨a, r⟩ => ⟨keeps_trans k a, r.mono (fun b _ _ p => up_up k b p) (.of_le (Le.refl _))⟩) fun _ _ x => x
theorem EvOk.after' {t : Sem Value} {d : PyData} {s' : Shared} (k : Keeps s s') (h : EvOk prog w A t P s' d) : wpAny (model prog w) A t (fun v s'' => Keeps s s'' ∧ Rd (Up P s) s''.heap v d) E s' :=
  wpAny_mono (h E) (fun v s'' ⟨a, r⟩ => ⟨keeps_trans k a, r.back k⟩) fun _ _ x => x

theorem two {t1 t2 : Sem Value} {x y : PyData} {f : Value → Value → Shared → Prop} (h1 : EvOk prog w A t1 P s x) (h2 : ∀ s', Keeps s s' → EvOk prog w A t2 P s' y)
    (k : ∀ a b s2, Keeps s s2 → Rd (Up P s) s2.heap a x → Rd (Up P s) s2.heap b y → f a b s2) :
    wpAny (model prog w) A t1 (fun a s1 => wpAny (model prog w) A t2 (fun b s2 => f a b s2) E s1) E s := by
  refine h1.bind fun a s1 k1 r1 => ?_
  exact (h2 s1 k1).bind fun b s2 k2 r2 => k a b s2 (keeps_trans k1 k2) (r1.later k2) (r2.back k1)

noncomputable def opr : BO → Operator
  | .add => .Add | .sub => .Sub | .mul => .Mult | .fdiv => .FloorDiv | .mod => .Mod | .pow => .Pow

theorem r_bin {l r : Expr} {op : BO} {pos : Pos} {x y z : PyData} (h1 : EvOk prog w A (eval l env) P s x) (h2 : ∀ s', Keeps s s' → EvOk prog w A (eval r env) P s' y) (hz : binD op x y = some z) :
    EvOk prog w A (eval (.BinOp l (opr op) r pos) env) P s z := fun E =>
  wpAny_BinOp (two h1 h2 fun _ _ _ k ra rb => EvOk.after k (wpAny_binD (by cases op <;> rfl) ra rb hz))

theorem r_neg {e : Expr} {pos : Pos} {i : Int} (h : EvOk prog w A (eval e env) P s (.int i)) : EvOk prog w A (eval (.UnaryOp .USub e pos) env) P s (.int (-i)) := fun E =>
  wpAny_UnaryOp (h.bind fun a s1 k r => by cases r; exact _root_.PySem.P.neg_int ⟨keeps_trans k (keeps_tok s1 _), .int _ _⟩)

theorem r_cmp {n : Nat} (R : Room n A) {l r : Expr} {op : CO} {pos : Pos} {x y : PyData} {b : Bool} (h1 : EvOk prog w A (eval l env) P s x) (h2 : ∀ s', Keeps s s' → EvOk prog w A (eval r env) P s' y)
    (hz : cmpD op x y = some b) (hm : behindInMarks (cop op) r = false) : EvOk prog w A (eval (.Compare l [cop op] [r] pos) env) P s (.bool b) := fun E =>
  wpAny_Compare1 (two h1 h2 fun _ _ _ k ra rb => wpAny_cmpD R ra rb hz ⟨k, .bool _⟩) hm
theorem t_cmp {n : Nat} (R : Room n A) {l r : Expr} {op : CO} {pos : Pos} {x y : PyData} {b : Bool} {whole : Sem Value} (h1 : EvOk prog w A (eval l env) P s x) (h2 : ∀ s', Keeps s s' → EvOk prog w A (eval r env) P s' y)
    (hz : cmpD op x y = some b) (hm : behindInMarks (cop op) r = false) : TsOk prog w A (isTrue (.Compare l [cop op] [r] pos) env whole) s b := fun E =>
  wpAny_isTrue_Compare1 (two h1 h2 fun _ _ _ k ra rb => wpAny_cmpD R ra rb hz (wpAny_truthy_bool ⟨rfl, k⟩)) hm

theorem r_cmp2 {n : Nat} (R : Room n A) {l m r : Expr} {o1 o2 : CO} {pos : Pos} {x y z : PyData} {b1 b2 : Bool} (h1 : EvOk prog w A (eval l env) P s x) (h2 : ∀ s', Keeps s s' → EvOk prog w A (eval m env) P s' y)
    (h3 : b1 = true → ∀ s', Keeps s s' → EvOk prog w A (eval r env) P s' z) (hz1 : cmpD o1 x y = some b1) (hz2 : b1 = true → cmpD o2 y z = some b2) (hm : lastMarks [cop o1, cop o2] [m, r] = false) :
    EvOk prog w A (eval (.Compare l [cop o1, cop o2] [m, r] pos) env) P s (.bool (b1 && b2)) := fun E => by
  refine Compare_chain (wpAny_mono (two (f := fun a b s2 => wpAny (model prog w) A (compareOp (cop o1) a b) (fun c s₂ => wpAny (model prog w) A (truthy c)
      (fun t s₃ => if t then wpAny (model prog w) A (compareChain pos b [cop o2] [eval r env]) (fun v s' => Keeps s s' ∧ Rd (Up P s) s'.heap v (.bool (b1 && b2))) E s₃ else Keeps s s₃ ∧ Rd (Up P s) s₃.heap c (.bool (b1 && b2))) E s₂) E s2) h1 h2 fun a b s2 k ra rb => ?_)
    (fun a s1 h => chain_link h) fun _ _ x => x) hm
  refine wpAny_cmpD R ra rb hz1 (wpAny_truthy_bool ?_)
  cases b1 with
  | false => exact ⟨k, .bool _⟩
  | true =>
    simp only [if_true, Bool.true_and]
    refine chain_last ((h3 rfl s2 k).bind fun c s3 k3 rc => ?_)
    exact wpAny_cmpD R (rb.later k3) (rc.back k) (hz2 rfl) ⟨keeps_trans k k3, .bool _⟩
theorem t_cmp2 {n : Nat} (R : Room n A) {l m r : Expr} {o1 o2 : CO} {pos : Pos} {x y z : PyData} {b1 b2 : Bool} {whole : Sem Value} (h1 : EvOk prog w A (eval l env) P s x) (h2 : ∀ s', Keeps s s' → EvOk prog w A (eval m env) P s' y)
    (h3 : b1 = true → ∀ s', Keeps s s' → EvOk prog w A (eval r env) P s' z) (hz1 : cmpD o1 x y = some b1) (hz2 : b1 = true → cmpD o2 y z = some b2) (hm : lastMarks [cop o1, cop o2] [m, r] = false) :
    TsOk prog w A (isTrue (.Compare l [cop o1, cop o2] [m, r] pos) env whole) s (b1 && b2) := fun E => by
  refine isTrue_chain (wpAny_mono (two (f := fun a b s2 => wpAny (model prog w) A (compareOp (cop o1) a b) (fun c s₂ => wpAny (model prog w) A (truthy c)
      (fun t s₃ => if t then wpAny (model prog w) A (testChain pos b [cop o2] [eval r env]) (fun v s' => v = (b1 && b2) ∧ Keeps s s') E s₃ else false = (b1 && b2) ∧ Keeps s s₃) E s₂) E s2) h1 h2 fun a b s2 k ra rb => ?_)
    (fun a s1 h => test_link h) fun _ _ x => x) hm
  refine wpAny_cmpD R ra rb hz1 (wpAny_truthy_bool ?_)
  cases b1 with
  | false => exact ⟨rfl, k⟩
  | true =>
    simp only [if_true, Bool.true_and]
    refine test_last ((h3 rfl s2 k).bind fun c s3 k3 rc => ?_)
    exact wpAny_cmpD R (rb.later k3) (rc.back k) (hz2 rfl) (wpAny_truthy_bool ⟨rfl, keeps_trans k k3⟩)

theorem r_ite {t a b : Expr} {pos : Pos} {c : Bool} {d : PyData} (h1 : TsOk prog w A (isTrue t env (eval t env)) s c) (h2 : c = true → ∀ s', Keeps s s' → EvOk prog w A (eval a env) P s' d)
    (h3 : c = false → ∀ s', Keeps s s' → EvOk prog w A (eval b env) P s' d) : EvOk prog w A (eval (.IfExp t a b pos) env) P s d := fun E => by
  refine wpAny_IfExp (wpAny_mono (h1 E) (fun v s' ⟨e, k⟩ => ?_) fun _ _ x => x)
  subst e
  cases v with
  | true => simp only [if_true]; exact EvOk.after' k (h2 rfl s' k)
  | false => simp only [Bool.false_eq_true, if_false]; exact EvOk.after' k (h3 rfl s' k)
theorem t_ite {t a b : Expr} {pos : Pos} {c d : Bool} {whole : Sem Value} (h1 : TsOk prog w A (isTrue t env (eval t env)) s c) (h2 : c = true → ∀ s', Keeps s s' → TsOk prog w A (isTrue a env (eval a env)) s' d)
    (h3 : c = false → ∀ s', Keeps s s' → TsOk prog w A (isTrue b env (eval b env)) s' d) : TsOk prog w A (isTrue (.IfExp t a b pos) env whole) s d := fun E => by
  refine isTrue_IfExp (wpAny_mono (h1 E) (fun v s' ⟨e, k⟩ => ?_) fun _ _ x => x)
  subst e
  cases v with
  | true => simp only [if_true]; exact wpAny_mono (h2 rfl s' k E) (fun v s2 ⟨e, k2⟩ => ⟨e, keeps_trans k k2⟩) fun _ _ x => x
  | false => simp only [Bool.false_eq_true, if_false]; exact wpAny_mono (h3 rfl s' k E) (fun v s2 ⟨e, k2⟩ => ⟨e, keeps_trans k k2⟩) fun _ _ x => x
theorem t_not {x : Expr} {pos : Pos} {c : Bool} {whole : Sem Value} (h1 : TsOk prog w A (isTrue x env (eval x env)) s c) : TsOk prog w A (isTrue (.UnaryOp .Not x pos) env whole) s (!c) := fun E =>
  isTrue_not (wpAny_mono (h1 E) (fun v s' ⟨e, k⟩ => ⟨by rw [e], k⟩) fun _ _ x => x)
theorem t_plain {e : Expr} {b : Bool} (h : EvOk prog w A (eval e env) P s (.bool b)) (he : ∀ whole, isTrue e env whole = (do let v ← whole; standAt e.pos; holding [v] (truthy v))) :
    TsOk prog w A (isTrue e env (eval e env)) s b := fun E =>
  wpAny_isTrue_value (h.bind fun v s' k r => by cases r; exact wpAny_truthy_bool ⟨rfl, k⟩) (he _)

theorem r_idx {v i : Expr} {pos : Pos} {x y z : PyData} (h1 : EvOk prog w A (eval v env) P s x) (h2 : ∀ s', Keeps s s' → EvOk prog w A (eval i env) P s' y) (hz : idxD x y = some z) :
    EvOk prog w A (eval (.Subscript v i pos) env) P s z := fun E =>
  Subscript_ (two h1 h2 fun _ _ _ k ra rb => EvOk.after k (wpAny_idxD ra rb hz))

theorem r_sl {v : Expr} {lo hi : Option Expr} {p pos : Pos} {x l u z : PyData} (h1 : EvOk prog w A (eval v env) P s x) (h2 : ∀ s', Keeps s s' → EvOk prog w A (evalPart lo env) P s' l)
    (h3 : ∀ s', Keeps s s' → EvOk prog w A (evalPart hi env) P s' u) (hz : slD x l u = some z) : EvOk prog w A (eval (.Subscript v (.Slice lo hi none p) pos) env) P s z := fun E => by
  refine Subscript_ (h1.bind fun a s1 k1 r1 => wpAny_Slice ((h2 s1 k1).bind fun vl s2 k2 r2 => (h3 s2 (keeps_trans k1 k2)).bind fun vu s3 k3 r3 => ?_))
  rw [evalPart_none]
  refine wpAny_pure ?_
  have k13 := keeps_trans k2 k3
  have k03 := keeps_trans k1 k13
  have kp : Le s3.heap (s3.heap.push { cls := .type "slice", data := .fields #[vl, vu, .none] }) := Le.push _ _
  have k4 : Keeps s { s3 with heap := s3.heap.push { cls := .type "slice", data := .fields #[vl, vu, .none] } } := keeps_trans k03 (keeps_heap' kp)
  have up : ∀ {v d}, Rd (Up P s) s3.heap v d → Rd (Up P s) (s3.heap.push { cls := .type "slice", data := .fields #[vl, vu, .none] }) v d := fun r => r.mono (fun _ _ _ p => p) (.of_le kp)
  exact EvOk.after k4 (wpAny_slD (s := { s3 with heap := s3.heap.push { cls := .type "slice", data := .fields #[vl, vu, .none] } }) (up (r1.later k13)) (up ((r2.back k1).later k3)) (up (r3.back (keeps_trans k1 k2))) (Heap.IsSliceOf.new ..) hz)

theorem r_rev {v st : Expr} {p pos : Pos} {xs : List PyData} (h1 : EvOk prog w A (eval v env) P s (.list xs)) (h2 : ∀ s', Keeps s s' → EvOk prog w A (eval st env) P s' (.int (-1))) :
    EvOk prog w A (eval (.Subscript v (.Slice none none (some st) p) pos) env) P s (.list xs.reverse) := fun E => by
  refine Subscript_ (h1.bind fun a s1 k1 r1 => wpAny_Slice ?_)
  rw [evalPart_none]
  refine wpAny_pure (wpAny_pure ((h2 s1 k1).bind fun vs s2 k2 r2 => ?_))
  have k02 := keeps_trans k1 k2
  have kp : Le s2.heap (s2.heap.push { cls := .type "slice", data := .fields #[.none, .none, vs] }) := Le.push _ _
  have k4 : Keeps s { s2 with heap := s2.heap.push { cls := .type "slice", data := .fields #[.none, .none, vs] } } := keeps_trans k02 (keeps_heap' kp)
  have up : ∀ {v d}, Rd (Up P s) s2.heap v d → Rd (Up P s) (s2.heap.push { cls := .type "slice", data := .fields #[.none, .none, vs] }) v d := fun r => r.mono (fun _ _ _ p => p) (.of_le kp)
  exact EvOk.after k4 (wpAny_revD (s := { s2 with heap := s2.heap.push { cls := .type "slice", data := .fields #[.none, .none, vs] } }) (up (r1.later k2)) (up (r2.back k1)) (Heap.IsSliceOf.new ..))

theorem p_none : EvOk prog w A (evalPart none env) P s .none := fun E => by rw [evalPart_none]; exact wpAny_pure ⟨keeps_refl s, .none⟩
theorem p_some {e : Expr} {d : PyData} (h : EvOk prog w A (eval e env) P s d) : EvOk prog w A (evalPart (some e) env) P s d := h

/-- arguments' trees -/
noncomputable def noStar : List Expr → Bool
  | [] => true
  | .Starred _ _ :: _ => false
  | _ :: r => noStar r
theorem starEach_cons {e : Expr} {rest : List Expr} (h : noStar (e :: rest) = true) : starEach (e :: rest) env = (false, eval e env) :: starEach rest env ∧ noStar rest = true := by
  cases e <;> first | exact ⟨rfl, h⟩ | cases h
theorem starEach_plain : ∀ (es : List Expr) (pos : Pos), noStar es = true → (backTo pos (starEach es env)).any (·.1) = false
  | [], _, _ => rfl
  | e :: r, pos, h => by
    obtain ⟨a, b⟩ := starEach_cons (env := env) h
    rw [a]
    show (false || (backTo pos (starEach r env)).any (·.1)) = false
    rw [starEach_plain r pos b]; rfl
theorem starEach_all : ∀ (es : List Expr) (pos : Pos), noStar es = true → (backTo pos (starEach es env)).all (!·.1) = true
  | [], _, _ => rfl
  | e :: r, pos, h => by
    obtain ⟨a, b⟩ := starEach_cons (env := env) h
    rw [a]
    show (true && (backTo pos (starEach r env)).all (!·.1)) = true
    rw [starEach_all r pos b]; rfl
theorem evalArgs_all {f : Value} {es : List Expr} {pos : Pos} {Q : Args → Shared → Prop} (h : noStar es = true) (hq : wpAny (model prog w) A (spliced (backTo pos (starEach es env))) (fun vs s' => Q ⟨vs, []⟩ s') E s) :
    wpAny (model prog w) A (evalArgs f true (backTo pos (starEach es env)) []) Q E s := by
  cases es with
  | nil =>
    unfold evalArgs
    show wpAny (model prog w) A (spliced [] >>= _) Q E s
    refine wpAny_bind (wpAny_mono hq (fun vs s' h' => wpAny_bind (wpAny_pure ?_)) fun _ _ x => x)
    refine wpAny_holding ?_
    exact wpAny_bind (wpAny_pure (wpAny_bind (wpAny_pure (wpAny_pure h'))))
  | cons e r =>
    obtain ⟨a, b⟩ := starEach_cons (env := env) h
    rw [a] at hq ⊢
    exact Calls.evalArgs_plain hq
end
end Mine
end

section
open PySem PyProof.Rows PySem.W
set_option Elab.async false
set_option linter.unusedVariables false
set_option linter.unusedSimpArgs false
namespace Mine

/-- a part of the text that was seen to be such a one -/
noncomputable abbrev IsOp (o : Operator) := {q : BO // o = opr q}
noncomputable abbrev IsOp.b {o : Operator} (z : IsOp o) : BO := z.1
theorem IsOp.h {o : Operator} (z : IsOp o) : o = opr z.b := z.2
noncomputable def bop (o : Operator) : Option (IsOp o) := match o with
  | .Add => some ⟨.add, rfl⟩ | .Sub => some ⟨.sub, rfl⟩ | .Mult => some ⟨.mul, rfl⟩ | .FloorDiv => some ⟨.fdiv, rfl⟩ | .Mod => some ⟨.mod, rfl⟩ | .Pow => some ⟨.pow, rfl⟩ | _ => none
noncomputable abbrev IsCop (o : CmpOp) := {q : CO // o = cop q}
noncomputable abbrev IsCop.b {o : CmpOp} (z : IsCop o) : CO := z.1
theorem IsCop.h {o : CmpOp} (z : IsCop o) : o = cop z.b := z.2
noncomputable def cop? (o : CmpOp) : Option (IsCop o) := match o with
  | .Lt => some ⟨.lt, rfl⟩ | .LtE => some ⟨.le, rfl⟩ | .Gt => some ⟨.gt, rfl⟩ | .Eq => some ⟨.eq, rfl⟩ | .NotEq => some ⟨.ne, rfl⟩ | .In => some ⟨.isin, rfl⟩ | .NotIn => some ⟨.notin, rfl⟩ | _ => none

noncomputable def mapO {α β : Type} (f : α → Option β) : List α → Option (List β)
  | [] => some []
  | x :: xs => (f x).bind fun y => (mapO f xs).map (y :: ·)

noncomputable def slotOf (slots : List (Option Str)) (x : Str) : Option Nat := slots.findIdx? (· == some x)
theorem slotOf_get {slots : List (Option Str)} {x : Str} {k : Nat} (h : slotOf slots x = some k) : slots[k]? = some (some x) := by
  unfold slotOf at h
  obtain ⟨a, h1, h2⟩ := List.findIdx?_eq_some_iff_getElem.mp h
  rw [List.getElem?_eq_getElem a]
  simpa using h1

noncomputable def notSet : Expr → Bool
  | .Set _ _ _ => false
  | _ => true
theorem folded_notSet {e : Expr} (h : notSet e = true) (env : Env) (x : Value) : foldedSetIterable e env x = pure x := by
  cases e <;> first | rfl | cases h

noncomputable def relabelN (outer names : List (Str × NameKind)) : List (Str × NameKind) :=
  names.map fun (n, k) => if k == .free && outer.lookup n == some .cell then (n, .cell) else (n, k)
noncomputable def compCx (cx : Cx) (nxt : Nat) (names : List (Str × NameKind)) (x : Str) : Cx :=
  { names := relabelN cx.names names, slots := (cx.slots.map fun o => match o with | some y => if names.lookup y == some .free then some y else none | none => none).set nxt (some x) }
noncomputable def compOk (cx : Cx) (scope : Scope) (x : Str) : Bool :=
  scope.kind == .function && scope.names.lookup x == some .local &&
  scope.names.all fun y => y.2 != .cell && (y.2 != .local || scope.names.lookup y.1 == some .local) && (y.2 != .free || cx.names.lookup y.1 == some .cell)

noncomputable def isGlob (cx : Cx) (f : Str) : Bool := cx.names.lookup f == some .globalImplicit && !(f == ("__debug__" : Str))

noncomputable abbrev OneOf {α : Type} (l : List α) := {q : α // l = [q]}
noncomputable abbrev OneOf.a {α : Type} {l : List α} (z : OneOf l) : α := z.1
theorem OneOf.h {α : Type} {l : List α} (z : OneOf l) : l = [z.a] := z.2
noncomputable def one? {α : Type} : (l : List α) → Option (OneOf l)
  | [] => none
  | a :: r => match r with
    | [] => some ⟨a, rfl⟩
    | _ :: _ => none
noncomputable abbrev TwoOf {α : Type} (l : List α) := {q : α × α // l = [q.1, q.2]}
noncomputable abbrev TwoOf.a {α : Type} {l : List α} (z : TwoOf l) : α := z.1.1
noncomputable abbrev TwoOf.b {α : Type} {l : List α} (z : TwoOf l) : α := z.1.2
theorem TwoOf.h {α : Type} {l : List α} (z : TwoOf l) : l = [z.a, z.b] := z.2
noncomputable def two? {α : Type} : (l : List α) → Option (TwoOf l)
  | [] => none
  | a :: r => (one? r).map fun b => ⟨(a, b.a), congrArg (a :: ·) b.h⟩
noncomputable abbrev ConsOf {α : Type} (l : List α) := {q : α × List α // l = q.1 :: q.2}
noncomputable abbrev ConsOf.a {α : Type} {l : List α} (z : ConsOf l) : α := z.1.1
noncomputable abbrev ConsOf.r {α : Type} {l : List α} (z : ConsOf l) : List α := z.1.2
theorem ConsOf.h {α : Type} {l : List α} (z : ConsOf l) : l = z.a :: z.r := z.2
noncomputable def cons? {α : Type} : (l : List α) → Option (ConsOf l)
  | [] => none
  | a :: r => some ⟨(a, r), rfl⟩
noncomputable def nil? {α : Type} : (l : List α) → Option (PLift (l = []))
  | [] => some ⟨rfl⟩
  | _ :: _ => none
noncomputable def none? {α : Type} : (l : Option α) → Option (PLift (l = none))
  | none => some ⟨rfl⟩
  | some _ => none
noncomputable abbrev SomeOf {α : Type} (l : Option α) := {q : α // l = some q}
noncomputable abbrev SomeOf.a {α : Type} {l : Option α} (z : SomeOf l) : α := z.1
theorem SomeOf.h {α : Type} {l : Option α} (z : SomeOf l) : l = some z.a := z.2
noncomputable def some? {α : Type} : (l : Option α) → Option (SomeOf l)
  | none => none
  | some a => some ⟨a, rfl⟩
noncomputable abbrev IsName (e : Expr) := {q : Str × Pos // e = .Name q.1 q.2}
noncomputable abbrev IsName.x {e : Expr} (z : IsName e) : Str := z.1.1
noncomputable abbrev IsName.p {e : Expr} (z : IsName e) : Pos := z.1.2
theorem IsName.h {e : Expr} (z : IsName e) : e = .Name z.x z.p := z.2
noncomputable abbrev IsAttr (e : Expr) := {q : Expr × Str × Pos // e = .Attribute q.1 q.2.1 q.2.2}
noncomputable abbrev IsAttr.o {e : Expr} (z : IsAttr e) : Expr := z.1.1
noncomputable abbrev IsAttr.n {e : Expr} (z : IsAttr e) : Str := z.1.2.1
noncomputable abbrev IsAttr.p {e : Expr} (z : IsAttr e) : Pos := z.1.2.2
theorem IsAttr.h {e : Expr} (z : IsAttr e) : e = .Attribute z.o z.n z.p := z.2
noncomputable abbrev IsConst (e : Expr) := {q : Const × Nat × Pos // e = .Constant q.1 q.2.1 q.2.2}
noncomputable abbrev IsConst.c {e : Expr} (z : IsConst e) : Const := z.1.1
noncomputable abbrev IsConst.k {e : Expr} (z : IsConst e) : Nat := z.1.2.1
noncomputable abbrev IsConst.p {e : Expr} (z : IsConst e) : Pos := z.1.2.2
theorem IsConst.h {e : Expr} (z : IsConst e) : e = .Constant z.c z.k z.p := z.2
noncomputable abbrev IsUn (e : Expr) := {q : PySem.UnaryOp × Expr × Pos // e = .UnaryOp q.1 q.2.1 q.2.2}
noncomputable abbrev IsUn.o {e : Expr} (z : IsUn e) : PySem.UnaryOp := z.1.1
noncomputable abbrev IsUn.x {e : Expr} (z : IsUn e) : Expr := z.1.2.1
noncomputable abbrev IsUn.p {e : Expr} (z : IsUn e) : Pos := z.1.2.2
theorem IsUn.h {e : Expr} (z : IsUn e) : e = .UnaryOp z.o z.x z.p := z.2
noncomputable abbrev IsSl (e : Expr) := {q : Option Expr × Option Expr × Option Expr × Pos // e = .Slice q.1 q.2.1 q.2.2.1 q.2.2.2}
noncomputable abbrev IsSl.lo {e : Expr} (z : IsSl e) : Option Expr := z.1.1
noncomputable abbrev IsSl.hi {e : Expr} (z : IsSl e) : Option Expr := z.1.2.1
noncomputable abbrev IsSl.st {e : Expr} (z : IsSl e) : Option Expr := z.1.2.2.1
noncomputable abbrev IsSl.p {e : Expr} (z : IsSl e) : Pos := z.1.2.2.2
theorem IsSl.h {e : Expr} (z : IsSl e) : e = .Slice z.lo z.hi z.st z.p := z.2
noncomputable abbrev IsList (e : Expr) := {q : List Expr × Pos // e = .List q.1 q.2}
noncomputable abbrev IsList.es {e : Expr} (z : IsList e) : List Expr := z.1.1
noncomputable abbrev IsList.p {e : Expr} (z : IsList e) : Pos := z.1.2
theorem IsList.h {e : Expr} (z : IsList e) : e = .List z.es z.p := z.2
noncomputable abbrev IsTup (e : Expr) := {q : List Expr × Nat × Pos // e = .Tuple q.1 q.2.1 q.2.2}
noncomputable abbrev IsTup.es {e : Expr} (z : IsTup e) : List Expr := z.1.1
noncomputable abbrev IsTup.j {e : Expr} (z : IsTup e) : Nat := z.1.2.1
noncomputable abbrev IsTup.p {e : Expr} (z : IsTup e) : Pos := z.1.2.2
theorem IsTup.h {e : Expr} (z : IsTup e) : e = .Tuple z.es z.j z.p := z.2
noncomputable abbrev IsCall (e : Expr) := {q : Expr × List Expr × List Keyword × Pos // e = .Call q.1 q.2.1 q.2.2.1 q.2.2.2}
noncomputable abbrev IsCall.f {e : Expr} (z : IsCall e) : Expr := z.1.1
noncomputable abbrev IsCall.as {e : Expr} (z : IsCall e) : List Expr := z.1.2.1
noncomputable abbrev IsCall.kw {e : Expr} (z : IsCall e) : List Keyword := z.1.2.2.1
noncomputable abbrev IsCall.p {e : Expr} (z : IsCall e) : Pos := z.1.2.2.2
theorem IsCall.h {e : Expr} (z : IsCall e) : e = .Call z.f z.as z.kw z.p := z.2
noncomputable abbrev IsSub (e : Expr) := {q : Expr × Expr × Pos // e = .Subscript q.1 q.2.1 q.2.2}
noncomputable abbrev IsSub.v {e : Expr} (z : IsSub e) : Expr := z.1.1
noncomputable abbrev IsSub.i {e : Expr} (z : IsSub e) : Expr := z.1.2.1
noncomputable abbrev IsSub.p {e : Expr} (z : IsSub e) : Pos := z.1.2.2
theorem IsSub.h {e : Expr} (z : IsSub e) : e = .Subscript z.v z.i z.p := z.2
/-- what an expression is -/
inductive Sh (e : Expr) where
  | name (q : IsName e) | attr (q : IsAttr e) | const (q : IsConst e) | un (q : IsUn e) | sl (q : IsSl e) | list (q : IsList e) | tup (q : IsTup e) | call (q : IsCall e) | sub (q : IsSub e) | other
noncomputable def sh (e : Expr) : Sh e := match e with
  | .Name x p => .name ⟨(x, p), rfl⟩
  | .Attribute o n p => .attr ⟨(o, n, p), rfl⟩
  | .Constant c k p => .const ⟨(c, k, p), rfl⟩
  | .UnaryOp o x p => .un ⟨(o, x, p), rfl⟩
  | .Slice lo hi st p => .sl ⟨(lo, hi, st, p), rfl⟩
  | .List es p => .list ⟨(es, p), rfl⟩
  | .Tuple es j p => .tup ⟨(es, j, p), rfl⟩
  | .Call f as kw p => .call ⟨(f, as, kw, p), rfl⟩
  | .Subscript v i p => .sub ⟨(v, i, p), rfl⟩
  | _ => .other
noncomputable def asName (e : Expr) : Option (IsName e) := match sh e with | .name q => some q | _ => none
noncomputable def asAttr (e : Expr) : Option (IsAttr e) := match sh e with | .attr q => some q | _ => none
noncomputable def asConst (e : Expr) : Option (IsConst e) := match sh e with | .const q => some q | _ => none
noncomputable def asUn (e : Expr) : Option (IsUn e) := match sh e with | .un q => some q | _ => none
noncomputable def asSl (e : Expr) : Option (IsSl e) := match sh e with | .sl q => some q | _ => none
noncomputable def asList (e : Expr) : Option (IsList e) := match sh e with | .list q => some q | _ => none
noncomputable def asTup (e : Expr) : Option (IsTup e) := match sh e with | .tup q => some q | _ => none
noncomputable def asCall (e : Expr) : Option (IsCall e) := match sh e with | .call q => some q | _ => none
noncomputable def asSub (e : Expr) : Option (IsSub e) := match sh e with | .sub q => some q | _ => none
noncomputable def isUSub (o : PySem.UnaryOp) : Option (PLift (o = .USub)) := match o with
  | .USub => some ⟨rfl⟩
  | _ => none
noncomputable def isInt1 (c : Const) : Option (PLift (c = .int 1)) := match c with
  | .int i => if h : i = 1 then some ⟨congrArg Const.int h⟩ else none
  | _ => none
theorem un_eq {o o' : PySem.UnaryOp} {x y : Expr} {p : Pos} (h1 : o = o') (h2 : x = y) : Expr.UnaryOp o x p = .UnaryOp o' y p := by rw [h1, h2]
theorem sl_eq {a a' b b' c c' : Option Expr} {p : Pos} (h1 : a = a') (h2 : b = b') (h3 : c = c') : Expr.Slice a b c p = .Slice a' b' c' p := by rw [h1, h2, h3]
/-- minus one -/
noncomputable abbrev IsM1 (e : Expr) := {q : Nat × Pos × Pos // e = .UnaryOp .USub (.Constant (.int 1) q.1 q.2.1) q.2.2}
noncomputable abbrev IsM1.k {e : Expr} (z : IsM1 e) : Nat := z.1.1
noncomputable abbrev IsM1.p {e : Expr} (z : IsM1 e) : Pos := z.1.2.1
noncomputable abbrev IsM1.q {e : Expr} (z : IsM1 e) : Pos := z.1.2.2
theorem IsM1.h {e : Expr} (z : IsM1 e) : e = .UnaryOp .USub (.Constant (.int 1) z.k z.p) z.q := z.2
noncomputable def asM1 (e : Expr) : Option (IsM1 e) := (asUn e).bind fun a => (isUSub a.o).bind fun b => (asConst a.x).bind fun c => (isInt1 c.c).map fun d => ⟨(c.k, c.p, a.p), a.h.trans (un_eq b.down (c.h.trans (congrArg (Expr.Constant · c.k c.p) d.down)))⟩
/-- a slice's parts: with no step; the turned one -/
noncomputable abbrev IsSlc (e : Expr) := {q : Option Expr × Option Expr × Pos // e = .Slice q.1 q.2.1 none q.2.2}
noncomputable abbrev IsSlc.lo {e : Expr} (z : IsSlc e) : Option Expr := z.1.1
noncomputable abbrev IsSlc.hi {e : Expr} (z : IsSlc e) : Option Expr := z.1.2.1
noncomputable abbrev IsSlc.p {e : Expr} (z : IsSlc e) : Pos := z.1.2.2
theorem IsSlc.h {e : Expr} (z : IsSlc e) : e = .Slice z.lo z.hi none z.p := z.2
noncomputable def slc? (e : Expr) : Option (IsSlc e) := (asSl e).bind fun a => (none? a.st).map fun b => ⟨(a.lo, a.hi, a.p), a.h.trans (sl_eq rfl rfl b.down)⟩
noncomputable abbrev IsRev (e : Expr) := {q : Nat × Pos × Pos × Pos // e = .Slice none none (some (.UnaryOp .USub (.Constant (.int 1) q.1 q.2.1) q.2.2.1)) q.2.2.2}
noncomputable abbrev IsRev.k {e : Expr} (z : IsRev e) : Nat := z.1.1
noncomputable abbrev IsRev.p {e : Expr} (z : IsRev e) : Pos := z.1.2.1
noncomputable abbrev IsRev.q {e : Expr} (z : IsRev e) : Pos := z.1.2.2.1
noncomputable abbrev IsRev.r {e : Expr} (z : IsRev e) : Pos := z.1.2.2.2
theorem IsRev.h {e : Expr} (z : IsRev e) : e = .Slice none none (some (.UnaryOp .USub (.Constant (.int 1) z.k z.p) z.q)) z.r := z.2
noncomputable def asRev (e : Expr) : Option (IsRev e) := (asSl e).bind fun a => (none? a.lo).bind fun b => (none? a.hi).bind fun c => (some? a.st).bind fun d => (asM1 d.a).map fun m => ⟨(m.k, m.p, m.q, a.p), a.h.trans (sl_eq b.down c.down (d.h.trans (congrArg some m.h)))⟩
noncomputable abbrev IsNilL (e : Expr) := {q : Pos // e = .List [] q}
noncomputable abbrev IsNilL.p {e : Expr} (z : IsNilL e) : Pos := z.1
theorem IsNilL.h {e : Expr} (z : IsNilL e) : e = .List [] z.p := z.2
noncomputable def asNilL (e : Expr) : Option (IsNilL e) := (asList e).bind fun a => (nil? a.es).map fun b => ⟨a.p, a.h.trans (congrArg (Expr.List · a.p) b.down)⟩
noncomputable def cConst : Const → Option ME
  | .int i => some (.lit (.int i))
  | .bool b => some (.lit (.bool b))
  | _ => none
noncomputable def isLoc (o : Option NameKind) : Bool := o == some .local || o == some .cell
noncomputable def varIn (cx : Cx) (x : Str) : Option Nat := if x == ("__debug__" : Str) then none else if isLoc (cx.names.lookup x) then slotOf cx.slots x else none
theorem varIn_spec {cx : Cx} {x : Str} {k : Nat} (h : varIn cx x = some k) : (x == ("__debug__" : Str)) = false ∧ slotOf cx.slots x = some k := by
  unfold varIn at h
  cases hd : (x == ("__debug__" : Str)) with
  | true => rw [hd] at h; cases h
  | false =>
    rw [hd] at h
    refine ⟨rfl, ?_⟩
    cases hl : isLoc (cx.names.lookup x) with
    | true => rw [hl] at h; exact h
    | false => rw [hl] at h; cases h
noncomputable def litIn (gt : GT) (cx : Cx) (x : Str) : Option PyData := if isGlob cx x then gt.dat.lookup x else none
noncomputable abbrev IsAt (x : Str) := {q : Nat // attrName q = some x}
noncomputable abbrev IsAt.i {x : Str} (z : IsAt x) : Nat := z.1
theorem IsAt.h {x : Str} (z : IsAt x) : attrName z.i = some x := z.2
noncomputable def isAt (x : Str) (i : Nat) (y : Str) (h : attrName i = some y) : Option (IsAt x) := if q : x = y then some ⟨i, by rw [q]; exact h⟩ else none
noncomputable def attrIx (x : Str) : Option (IsAt x) := (isAt x 0 (Str.ofString "wide") rfl).or ((isAt x 1 (Str.ofString "marks") rfl).or (isAt x 2 (Str.ofString "joiners") rfl))
/-- the built-ins of one argument -/
inductive B1 where | len | sum | list | tuple | int
noncomputable def B1.nm : B1 → String | .len => "len" | .sum => "sum" | .list => "list" | .tuple => "tuple" | .int => "int"
noncomputable def B1.me : B1 → ME → ME | .len => .len | .sum => .sum | .list => .toList | .tuple => .toTup | .int => .toInt
noncomputable abbrev IsB1 (f : Str) := {q : B1 // f = Str.ofString q.nm}
noncomputable abbrev IsB1.b {f : Str} (z : IsB1 f) : B1 := z.1
theorem IsB1.h {f : Str} (z : IsB1 f) : f = Str.ofString z.1.nm := z.2
noncomputable def isB1 (f : Str) (b : B1) : Option (IsB1 f) := if q : f = Str.ofString b.nm then some ⟨b, q⟩ else none
noncomputable def b1Of (f : Str) : Option (IsB1 f) := (isB1 f .len).or ((isB1 f .sum).or ((isB1 f .list).or ((isB1 f .tuple).or (isB1 f .int))))
theorem bind_some {α β : Type} {x : Option α} {f : α → Option β} {b : β} (h : x.bind f = some b) : ∃ a, x = some a ∧ f a = some b := Option.bind_eq_some_iff.mp h
theorem map_some {α β : Type} {x : Option α} {f : α → β} {b : β} (h : x.map f = some b) : ∃ a, x = some a ∧ f a = b := Option.map_eq_some_iff.mp h
section
variable {α β γ δ ε : Type} {r : δ} {G : δ → Prop}
theorem k_map {x : Option α} {f : α → δ} (h : x.map f = some r) (k : ∀ a, x = some a → G (f a)) : G r := by
  obtain ⟨a, h1, h2⟩ := map_some h
  exact h2 ▸ k a h1
theorem k_bind {x : Option α} {f : α → Option δ} (h : x.bind f = some r) (k : ∀ a, x = some a → f a = some r → G r) : G r := by
  obtain ⟨a, h1, h2⟩ := bind_some h
  exact k a h1 h2
theorem k_bm {x : Option α} {y : α → Option β} {f : α → β → δ} (h : (x.bind fun a => (y a).map (f a)) = some r) (k : ∀ a b, x = some a → y a = some b → G (f a b)) : G r :=
  k_bind h fun a h1 h2 => k_map h2 fun b h3 => k a b h1 h3
theorem k_bbm {x : Option α} {y : α → Option β} {z : α → β → Option γ} {f : α → β → γ → δ} (h : (x.bind fun a => (y a).bind fun b => (z a b).map (f a b)) = some r) (k : ∀ a b c, x = some a → y a = some b → z a b = some c → G (f a b c)) : G r :=
  k_bind h fun a h1 h2 => k_bm h2 fun b c h3 h4 => k a b c h1 h3 h4
theorem k_bbbm {x : Option α} {y : α → Option β} {z : α → β → Option γ} {v : α → β → γ → Option ε} {f : α → β → γ → ε → δ} (h : (x.bind fun a => (y a).bind fun b => (z a b).bind fun c => (v a b c).map (f a b c)) = some r)
    (k : ∀ a b c d, x = some a → y a = some b → z a b = some c → v a b c = some d → G (f a b c d)) : G r :=
  k_bind h fun a h1 h2 => k_bbm h2 fun b c d h3 h4 h5 => k a b c d h1 h3 h4 h5
theorem k_if {b : Bool} {x : Option δ} (h : (if b = true then x else none) = some r) (k : b = true → x = some r → G r) : G r := by
  cases b with
  | true => exact k rfl h
  | false => cases h
theorem k_or {x y : Option δ} (h : x.or y = some r) (k : x = some r → G r) (k2 : y = some r → G r) : G r := by
  cases x with
  | some a => exact k h
  | none => exact k2 h
end
theorem if_some {α : Type} {b : Bool} {x : Option α} {y : α} (h : (if b = true then x else none) = some y) : b = true ∧ x = some y := by
  cases b with
  | true => exact ⟨rfl, h⟩
  | false => cases h
theorem or_some {α : Type} {x y : Option α} {z : α} (h : x.or y = some z) : x = some z ∨ y = some z := by
  cases x with
  | some a => exact .inl h
  | none => exact .inr h

/-- a comparison of the text -/
noncomputable def cCmp1 (E : Expr → Option ME) (l : Expr) (o : CmpOp) (r : Expr) : Option ME :=
  if !behindInMarks o r then (cop? o).bind fun o => (E l).bind fun a => (E r).map fun b => .cmp o.b a b else none
noncomputable def cCmp2 (E : Expr → Option ME) (l : Expr) (o1 o2 : CmpOp) (m r : Expr) : Option ME :=
  if !lastMarks [o1, o2] [m, r] then (cop? o1).bind fun o1 => (cop? o2).bind fun o2 => (E l).bind fun a => (E m).bind fun b => (E r).map fun c => .cmp2 o1.b o2.b a b c else none
noncomputable def cCmp (E : Expr → Option ME) (l : Expr) (ops : List CmpOp) (rs : List Expr) : Option ME :=
  ((one? ops).bind fun op => (one? rs).bind fun r => cCmp1 E l op.a r.a).or
  ((two? ops).bind fun op => (two? rs).bind fun r => cCmp2 E l op.a op.b r.a r.b)
/-- a call of a name -/
noncomputable def cFun (gt : GT) (cx : Cx) (E : Expr → Option ME) (f : Str) (args : List Expr) : Option ME :=
  if isGlob cx f then ((gt.fn.lookup f).bind fun k => (mapO E args).map (.call k)).or
    (((one? args).bind fun a => (b1Of f).bind fun b => (E a.a).map b.b.me).or
    ((two? args).bind fun a => (asNilL a.b).bind fun z => if f == Str.ofString "sum" then (E a.a).map .sumL else none)) else none
noncomputable def cMeth (gt : GT) (cx : Cx) (E : Expr → Option ME) (f : Expr) (args : List Expr) (line : Nat) : Option ME :=
  (asAttr f).bind fun a => (asName a.o).bind fun x => if a.p.endLine == line && decide (args.length < 30) then
    (varIn cx x.x).bind fun k => (gt.meth.lookup a.n).bind fun m => (mapO E args).map fun as => .meth m k as else none
noncomputable abbrev IsRange (cx : Cx) (f : Expr) (args : List Expr) (kws : List Keyword) := {q : Str × Pos × Expr // f = .Name q.1 q.2.1 ∧ args = [q.2.2] ∧ kws = [] ∧ q.1 = Str.ofString "range" ∧ isGlob cx q.1 = true}
noncomputable abbrev IsRange.x {cx : Cx} {f : Expr} {args : List Expr} {kws : List Keyword} (z : IsRange cx f args kws) : Str := z.1.1
noncomputable abbrev IsRange.p {cx : Cx} {f : Expr} {args : List Expr} {kws : List Keyword} (z : IsRange cx f args kws) : Pos := z.1.2.1
noncomputable abbrev IsRange.a {cx : Cx} {f : Expr} {args : List Expr} {kws : List Keyword} (z : IsRange cx f args kws) : Expr := z.1.2.2
theorem IsRange.hf {cx : Cx} {f : Expr} {args : List Expr} {kws : List Keyword} (z : IsRange cx f args kws) : f = .Name z.x z.p := z.2.1
theorem IsRange.ha {cx : Cx} {f : Expr} {args : List Expr} {kws : List Keyword} (z : IsRange cx f args kws) : args = [z.a] := z.2.2.1
theorem IsRange.hk {cx : Cx} {f : Expr} {args : List Expr} {kws : List Keyword} (z : IsRange cx f args kws) : kws = [] := z.2.2.2.1
theorem IsRange.hx {cx : Cx} {f : Expr} {args : List Expr} {kws : List Keyword} (z : IsRange cx f args kws) : z.x = Str.ofString "range" := z.2.2.2.2.1
theorem IsRange.hg {cx : Cx} {f : Expr} {args : List Expr} {kws : List Keyword} (z : IsRange cx f args kws) : isGlob cx z.x = true := z.2.2.2.2.2
noncomputable def rangeArg (cx : Cx) (f : Expr) (args : List Expr) (kws : List Keyword) : Option (IsRange cx f args kws) :=
  (nil? kws).bind fun z => (asName f).bind fun x => (one? args).bind fun a => if h : x.x = Str.ofString "range" ∧ isGlob cx x.x = true then some ⟨(x.x, x.p, a.a), x.h, a.h, z.down, h.1, h.2⟩ else none
theorem comp_eq {g : Comprehension} {t : Expr} {i : Int} (h1 : g.target = t) (h2 : g.is_async = i) : [g] = [⟨t, g.iter, g.ifs, i⟩] := by cases g; subst h1 h2; rfl
noncomputable abbrev IsComp (cx : Cx) (gens : List Comprehension) (scope : Scope) := {q : Str × Pos × Expr × List Expr // gens = [⟨.Name q.1 q.2.1, q.2.2.1, q.2.2.2, 0⟩] ∧ compOk cx scope q.1 = true ∧ notSet q.2.2.1 = true}
noncomputable abbrev IsComp.x {cx : Cx} {gens : List Comprehension} {scope : Scope} (z : IsComp cx gens scope) : Str := z.1.1
noncomputable abbrev IsComp.p {cx : Cx} {gens : List Comprehension} {scope : Scope} (z : IsComp cx gens scope) : Pos := z.1.2.1
noncomputable abbrev IsComp.iter {cx : Cx} {gens : List Comprehension} {scope : Scope} (z : IsComp cx gens scope) : Expr := z.1.2.2.1
noncomputable abbrev IsComp.ifs {cx : Cx} {gens : List Comprehension} {scope : Scope} (z : IsComp cx gens scope) : List Expr := z.1.2.2.2
theorem IsComp.h {cx : Cx} {gens : List Comprehension} {scope : Scope} (z : IsComp cx gens scope) : gens = [⟨.Name z.x z.p, z.iter, z.ifs, 0⟩] := z.2.1
theorem IsComp.hc {cx : Cx} {gens : List Comprehension} {scope : Scope} (z : IsComp cx gens scope) : compOk cx scope z.x = true := z.2.2.1
theorem IsComp.hs {cx : Cx} {gens : List Comprehension} {scope : Scope} (z : IsComp cx gens scope) : notSet z.iter = true := z.2.2.2
noncomputable def gen? (cx : Cx) (gens : List Comprehension) (scope : Scope) : Option (IsComp cx gens scope) :=
  (one? gens).bind fun g => (asName g.a.target).bind fun x => if h : g.a.is_async = 0 ∧ compOk cx scope x.x = true ∧ notSet g.a.iter = true then some ⟨(x.x, x.p, g.a.iter, g.a.ifs), g.h.trans (comp_eq x.h h.1), h.2.1, h.2.2⟩ else none

mutual
noncomputable def cE (gt : GT) : Nat → Nat → Cx → Expr → Option ME
  | 0, _, _, _ => none
  | n + 1, nx, cx, e => match e with
    | .Constant c _ _ => cConst c
    | .Name x _ => ((varIn cx x).map .var).or ((litIn gt cx x).map .lit)
    | .BinOp l op r _ => (bop op).bind fun o => (cE gt n nx cx l).bind fun a => (cE gt n nx cx r).map (.bin o.b a)
    | .UnaryOp op x _ => (isUSub op).bind fun _ => (cE gt n nx cx x).map .neg
    | .BoolOp op es _ => (cons? es).bind fun _ => (mapO (cE gt n nx cx) es).map (match op with | .And => .and | .Or => .or)
    | .IfExp t a b _ => (cT gt n nx cx t).bind fun t => (cE gt n nx cx a).bind fun a => (cE gt n nx cx b).map (.ite t a)
    | .List es _ => if decide (es.length ≤ 1000) then (mapO (cE gt n nx cx) es).map .list else none
    | .Tuple es _ _ => if decide (es.length ≤ 1000) then (mapO (cE gt n nx cx) es).map .tup else none
    | .Compare l ops rs _ => cCmp (cE gt n nx cx) l ops rs
    | .Subscript v i _ => ((slc? i).bind fun x => (cE gt n nx cx v).bind fun a => (cP gt n nx cx x.lo).bind fun l => (cP gt n nx cx x.hi).map (.sl a l)).or
        (((asRev i).bind fun _ => (cE gt n nx cx v).map .rev).or
        ((cE gt n nx cx v).bind fun a => (cE gt n nx cx i).map (.idx a)))
    | .Attribute o name _ => (asName o).bind fun x => (varIn cx x.x).bind fun k => (attrIx name).map fun i => .attr i.i k
    | .Call f args kws pos => (nil? kws).bind fun _ => (cMeth gt cx (cE gt n nx cx) f args pos.line).or ((asName f).bind fun x => cFun gt cx (cE gt n nx cx) x.x args)
    | .ListComp elt gens scope _ => (gen? cx gens scope).bind fun g =>
        (cSrc gt n nx cx g.iter).bind fun src => (cE gt n (nx + 1) (compCx cx nx scope.names g.x) elt).bind fun me => (mapO (cT gt n (nx + 1) (compCx cx nx scope.names g.x)) g.ifs).map (.comp nx me src)
    | _ => none
termination_by structural n => n
noncomputable def cP (gt : GT) : Nat → Nat → Cx → Option Expr → Option ME
  | 0, _, _, _ => none
  | n + 1, nx, cx, e => match e with
    | none => some (.lit .none)
    | some e => cE gt n nx cx e
termination_by structural n => n
noncomputable def cSrc (gt : GT) : Nat → Nat → Cx → Expr → Option ME
  | 0, _, _, _ => none
  | n + 1, nx, cx, e => match e with
    | .Call f args kws pos => ((rangeArg cx f args kws).bind fun a => (cE gt n nx cx a.a).map .rng).or (cE gt n nx cx (.Call f args kws pos))
    | e => cE gt n nx cx e
termination_by structural n => n
noncomputable def cT (gt : GT) : Nat → Nat → Cx → Expr → Option ME
  | 0, _, _, _ => none
  | n + 1, nx, cx, e => match e with
    | .UnaryOp op x p => match op with
      | .Not => (cT gt n nx cx x).map .not
      | _ => cE gt n nx cx (.UnaryOp op x p)
    | .BoolOp op es _ => (mapO (cT gt n nx cx) es).map (match op with | .And => .and | .Or => .or)
    | .IfExp t a b _ => (cT gt n nx cx t).bind fun t => (cT gt n nx cx a).bind fun a => (cT gt n nx cx b).map (.ite t a)
    | .Compare l ops rs _ => cCmp (cE gt n nx cx) l ops rs
    | e => cE gt n nx cx e
termination_by structural n => n
end

section
variable {S : Sys} {prog : Program} {w : World} {L : Nat} {Γ : Ctab}

noncomputable def GoodΓ (S : Sys) (prog : Program) (w : World) (L : Nat) (Γ : Ctab) : Prop :=
  ∀ k vs d, Γ k vs = some d → ∀ A P s args, Room L A → Base S s.heap → RepAll S P s.heap args vs → EvOk prog w A (call (.ref (S.fv k)) args) P s d

structure Ctx0 (S : Sys) (L : Nat) (cx : Cx) (env : Env) (ρ : Env0) (P : Addr → Prop) (s : Shared) (A : Around) : Prop where
  e : EnvOk cx env
  r : Rel0 S cx env ρ P s
  b : Base S s.heap
  m : Room L A
theorem Ctx0.keeps {cx : Cx} {env : Env} {ρ : Env0} {P : Addr → Prop} {s s' : Shared} {A : Around} (x : Ctx0 S L cx env ρ P s A) (k : Keeps s s') : Ctx0 S L cx env ρ P s' A :=
  ⟨x.e, x.r.keeps k, x.b.keeps (keeps_le k), x.m⟩

noncomputable def SE (S : Sys) (prog : Program) (w : World) (L : Nat) (Γ : Ctab) (cx : Cx) (e : Expr) (me : ME) : Prop :=
  ∀ ρ d env P s A, evP Γ ρ me = some d → Ctx0 S L cx env ρ P s A → EvOk prog w A (eval e env) P s d
noncomputable def ST (S : Sys) (prog : Program) (w : World) (L : Nat) (Γ : Ctab) (cx : Cx) (e : Expr) (me : ME) : Prop :=
  ∀ ρ b env P s A, evP Γ ρ me = some (.bool b) → Ctx0 S L cx env ρ P s A → TsOk prog w A (isTrue e env (eval e env)) s b
noncomputable def SV (S : Sys) (prog : Program) (w : World) (L : Nat) (Γ : Ctab) (cx : Cx) (e : Expr) (me : ME) : Prop :=
  ∀ ρ X env P s A, (match varOf me with | some k => valAt ρ k | none => (evP Γ ρ me).map .dat) = some X → Ctx0 S L cx env ρ P s A → EvOkV S prog w A (eval e env) P s X
/-- both -/
structure SB (S : Sys) (prog : Program) (w : World) (L : Nat) (Γ : Ctab) (cx : Cx) (x : Expr) (me : ME) : Prop where
  e : SE S prog w L Γ cx x me
  v : SV S prog w L Γ cx x me
theorem SE.b {cx : Cx} {e : Expr} {me : ME} (h : SE S prog w L Γ cx e me) (hn : varOf me = none) : SB S prog w L Γ cx e me :=
  ⟨h, fun ρ X env P s A hv c => by
    rw [hn] at hv
    obtain ⟨d, h1, h2⟩ := map_some hv
    subst h2
    exact h ρ d env P s A h1 c⟩
end
end Mine
end

section
open PySem PyProof.Rows PySem.W
set_option Elab.async false
set_option linter.unusedVariables false
set_option linter.unusedSimpArgs false
namespace Mine
section
variable {S : Sys} {prog : Program} {w : World} {L : Nat} {Γ : Ctab} {cx : Cx} {env : Env} {ρ : Env0} {P : Addr → Prop} {s : Shared} {A : Around}

theorem kindOf_eq (x : EnvOk cx env) (y : Str) : env.kindOf y = cx.names.lookup y := by unfold Env.kindOf; rw [x.names]

theorem datAt_val {k : Nat} {d : PyData} (h : datAt ρ k = some d) : valAt ρ k = some (.dat d) := by
  unfold datAt at h
  unfold valAt
  split at h
  · cases h; rename_i h; rw [h]
  · cases h

theorem cE_star {gt : GT} {n nx : Nat} {e : Expr} {me : ME} (h : cE gt n nx cx e = some me) (rest : List Expr) : noStar (e :: rest) = noStar rest := by
  cases e with
  | Starred _ _ => cases n <;> cases h
  | _ => rfl
theorem mapO_noStar {gt : GT} {n nx : Nat} : ∀ {es : List Expr} {mes : List ME}, mapO (cE gt n nx cx) es = some mes → noStar es = true
  | [], _, _ => rfl
  | e :: r, mes, h => k_bm (G := fun _ => noStar (e :: r) = true) h fun y ys h1 h2 => (cE_star h1 r).trans (mapO_noStar h2)
theorem mapO_length {α β : Type} {f : α → Option β} : ∀ {es : List α} {ys : List β}, mapO f es = some ys → ys.length = es.length
  | [], _, h => by cases h; rfl
  | e :: r, ys, h => k_bm (G := fun ys => ys.length = (e :: r).length) h fun y ys h1 h2 => congrArg (· + 1) (mapO_length h2)
theorem ts_after {b : Bool} {t : Sem Bool} {s s1 : Shared} (k : Keeps s s1) (h : TsOk prog w A t s1 b) {E : Value → Shared → Prop} : wpAny (model prog w) A t (fun v s' => v = b ∧ Keeps s s') E s1 :=
  wpAny_mono (h E) (fun v s2 h => ⟨h.1, keeps_trans k h.2⟩) fun _ _ x => x
theorem tests_skip : ∀ (es : List Expr) (s : Shared), TsOk prog w A (forIn es false fun c r => if r = true then do let ok ← isTrue c env (eval c env); pure (ForInStep.yield ok) else pure (ForInStep.yield r)) s false
  | [], s, E => by rw [List.forIn_nil]; exact wpAny_pure ⟨rfl, keeps_refl s⟩
  | e :: r, s, E => by
    rw [List.forIn_cons, if_neg Bool.false_ne_true]
    exact wpAny_bind (wpAny_pure (tests_skip r s E))
theorem pair_d {x : Option PyData} {y : Option (List PyData)} {ds : List PyData} {G : List PyData → Prop} (h : (match x, y with | some d, some ds => some (d :: ds) | _, _ => none) = some ds) (k : ∀ d ds', x = some d → y = some ds' → G (d :: ds')) : G ds := by
  cases x with
  | none => cases h
  | some d => cases y with
    | none => cases h
    | some ds' => cases h; exact k d ds' rfl rfl
theorem pair_v {x : Option V} {y : Option (List V)} {ds : List V} {G : List V → Prop} (h : (match x, y with | some d, some ds => some (d :: ds) | _, _ => none) = some ds) (k : ∀ d ds', x = some d → y = some ds' → G (d :: ds')) : G ds := by
  cases x with
  | none => cases h
  | some d => cases y with
    | none => cases h
    | some ds' => cases h; exact k d ds' rfl rfl
theorem evDs_cons {m : ME} {ms : List ME} {ds : List PyData} {G : List PyData → Prop} (h : evDs Γ ρ (m :: ms) = some ds) (k : ∀ d ds', evP Γ ρ m = some d → evDs Γ ρ ms = some ds' → G (d :: ds')) : G ds :=
  pair_d h k
theorem evAs_cons {m : ME} {ms : List ME} {ds : List V} {G : List V → Prop} (h : evAs Γ ρ (m :: ms) = some ds) (k : ∀ d ds', (match varOf m with | some k => valAt ρ k | none => (evP Γ ρ m).map .dat) = some d → evAs Γ ρ ms = some ds' → G (d :: ds')) : G ds :=
  pair_v h k
theorem evAnd_cons {m : ME} {ms : List ME} {b : Bool} {G : Prop} (h : evAnd Γ ρ (m :: ms) = some b) (k1 : evP Γ ρ m = some (.bool true) → evAnd Γ ρ ms = some b → G) (k2 : evP Γ ρ m = some (.bool false) → b = false → G) : G := by
  rw [evAnd] at h
  cases h1 : evP Γ ρ m with
  | none => rw [h1] at h; cases h
  | some d =>
    rw [h1] at h
    cases d with
    | bool c => cases c with
      | true => exact k1 h1 h
      | false => cases h; exact k2 h1 rfl
    | _ => cases h
theorem evOr_cons {m : ME} {ms : List ME} {b : Bool} {G : Prop} (h : evOr Γ ρ (m :: ms) = some b) (k1 : evP Γ ρ m = some (.bool true) → b = true → G) (k2 : evP Γ ρ m = some (.bool false) → evOr Γ ρ ms = some b → G) : G := by
  rw [evOr] at h
  cases h1 : evP Γ ρ m with
  | none => rw [h1] at h; cases h
  | some d =>
    rw [h1] at h
    cases d with
    | bool c => cases c with
      | true => cases h; exact k1 h1 rfl
      | false => exact k2 h1 h
    | _ => cases h

section
variable {n nx : Nat} (IH : ∀ e me, cE S.gt n nx cx e = some me → SB S prog w L Γ cx e me)
include IH
theorem ds_ok (pos : Pos) : ∀ (es : List Expr) (mes : List ME) (ds : List PyData) (s : Shared) (E : Value → Shared → Prop), mapO (cE S.gt n nx cx) es = some mes → evDs Γ ρ mes = some ds → Ctx0 S L cx env ρ P s A →
    wpAny (model prog w) A (spliced (backTo pos (starEach es env))) (fun vs s' => Keeps s s' ∧ RdAll (Up P s) s'.heap vs ds) E s
  | [], mes, ds, s, E, h, hv, c => by
    cases h
    cases hv
    exact wpAny_items_nil ⟨keeps_refl s, .nil⟩
  | e :: r, mes, ds, s, E, h, hv, c => by
    refine k_bm (G := fun mes => evDs Γ ρ mes = some ds → _) h (fun y ys h1 h2 hv => ?_) hv
    refine evDs_cons (G := fun ds => wpAny _ _ _ (fun vs s' => Keeps s s' ∧ RdAll (Up P s) s'.heap vs ds) _ _) hv fun d ds' hd hds => ?_
    refine wpAny_items_cons (((IH e y h1).e ρ d env P s A hd c).bind fun v s1 k1 r1 => ?_) (starEach_cons (by rw [cE_star h1]; exact mapO_noStar h2)).1
    refine wpAny_mono (ds_ok pos r ys ds' s1 E h2 hds (c.keeps k1)) (fun vs s2 h => ?_) fun _ _ x => x
    exact ⟨keeps_trans k1 h.1, .cons (r1.later h.1) (h.2.mono (fun a _ _ p => up_keep k1 a p) (.of_le (Le.refl _)))⟩
theorem as_ok (pos : Pos) : ∀ (es : List Expr) (mes : List ME) (ds : List V) (s : Shared) (E : Value → Shared → Prop), mapO (cE S.gt n nx cx) es = some mes → evAs Γ ρ mes = some ds → Ctx0 S L cx env ρ P s A →
    wpAny (model prog w) A (spliced (backTo pos (starEach es env))) (fun vs s' => Keeps s s' ∧ RepAll S (Up P s) s'.heap vs ds) E s
  | [], mes, ds, s, E, h, hv, c => by
    cases h
    cases hv
    exact wpAny_items_nil ⟨keeps_refl s, .nil⟩
  | e :: r, mes, ds, s, E, h, hv, c => by
    refine k_bm (G := fun mes => evAs Γ ρ mes = some ds → _) h (fun y ys h1 h2 hv => ?_) hv
    refine evAs_cons (G := fun ds => wpAny _ _ _ (fun vs s' => Keeps s s' ∧ RepAll S (Up P s) s'.heap vs ds) _ _) hv fun d ds' hd hds => ?_
    refine wpAny_items_cons (wpAny_mono ((IH e y h1).v ρ d env P s A hd c E) (fun v s1 q => ?_) fun _ _ x => x) (starEach_cons (by rw [cE_star h1]; exact mapO_noStar h2)).1
    refine wpAny_mono (as_ok pos r ys ds' s1 E h2 hds (c.keeps q.1)) (fun vs s2 h => ?_) fun _ _ x => x
    exact ⟨keeps_trans q.1 h.1, .cons (q.2.later h.1) (h.2.mono (fun a _ _ p => up_keep q.1 a p) (.of_le (Le.refl _)))⟩

theorem and_ok (pos : Pos) : ∀ (e : Expr) (es : List Expr) (mes : List ME) (b : Bool) (s : Shared), mapO (cE S.gt n nx cx) (e :: es) = some mes → evAnd Γ ρ mes = some b → Ctx0 S L cx env ρ P s A →
    EvOk prog w A (eval (.BoolOp .And (e :: es) pos) env) P s (.bool b)
  | e, [], mes, b, s, h, hv, c => by
    refine k_bm (G := fun mes => evAnd Γ ρ mes = some b → _) h (fun y ys h1 h2 hv => ?_) hv
    cases h2
    refine fun E => BoolOp_one (evAnd_cons hv (fun hy hb => ?_) fun hy hb => ?_)
    · cases hb; exact (IH e y h1).e ρ _ env P s A hy c E
    · subst hb; exact (IH e y h1).e ρ _ env P s A hy c E
  | e, e2 :: r, mes, b, s, h, hv, c => by
    refine k_bm (G := fun mes => evAnd Γ ρ mes = some b → _) h (fun y ys h1 h2 hv => ?_) hv
    refine fun E => BoolOp_and (evAnd_cons hv (fun hy hb => ?_) fun hy hb => ?_)
    · refine ((IH e y h1).e ρ _ env P s A hy c).bind fun v s1 k1 r1 => ?_
      rw [bool_inv r1]
      exact wpAny_truthy_bool (EvOk.after' k1 (and_ok pos e2 r ys b s1 h2 hb (c.keeps k1)))
    · refine ((IH e y h1).e ρ _ env P s A hy c).bind fun v s1 k1 r1 => ?_
      rw [bool_inv r1, hb]
      exact wpAny_truthy_bool ⟨k1, .bool _⟩
theorem or_ok (pos : Pos) : ∀ (e : Expr) (es : List Expr) (mes : List ME) (b : Bool) (s : Shared), mapO (cE S.gt n nx cx) (e :: es) = some mes → evOr Γ ρ mes = some b → Ctx0 S L cx env ρ P s A →
    EvOk prog w A (eval (.BoolOp .Or (e :: es) pos) env) P s (.bool b)
  | e, [], mes, b, s, h, hv, c => by
    refine k_bm (G := fun mes => evOr Γ ρ mes = some b → _) h (fun y ys h1 h2 hv => ?_) hv
    cases h2
    refine fun E => BoolOp_one (evOr_cons hv (fun hy hb => ?_) fun hy hb => ?_)
    · subst hb; exact (IH e y h1).e ρ _ env P s A hy c E
    · cases hb; exact (IH e y h1).e ρ _ env P s A hy c E
  | e, e2 :: r, mes, b, s, h, hv, c => by
    refine k_bm (G := fun mes => evOr Γ ρ mes = some b → _) h (fun y ys h1 h2 hv => ?_) hv
    refine fun E => BoolOp_or (evOr_cons hv (fun hy hb => ?_) fun hy hb => ?_)
    · refine ((IH e y h1).e ρ _ env P s A hy c).bind fun v s1 k1 r1 => ?_
      rw [bool_inv r1, hb]
      exact wpAny_truthy_bool ⟨k1, .bool _⟩
    · refine ((IH e y h1).e ρ _ env P s A hy c).bind fun v s1 k1 r1 => ?_
      rw [bool_inv r1]
      exact wpAny_truthy_bool (EvOk.after' k1 (or_ok pos e2 r ys b s1 h2 hb (c.keeps k1)))
end
section
variable {n nx : Nat} (IH : ∀ e me, cT S.gt n nx cx e = some me → ST S prog w L Γ cx e me)
include IH
theorem tand_ok : ∀ (es : List Expr) (mes : List ME) (b : Bool) (s : Shared), mapO (cT S.gt n nx cx) es = some mes → evAnd Γ ρ mes = some b → Ctx0 S L cx env ρ P s A →
    TsOk prog w A (allTrue .And es env) s b
  | [], mes, b, s, h, hv, c => by
    cases h
    cases hv
    exact fun E => wpAny_allTrue_And_nil ⟨rfl, keeps_refl s⟩
  | e :: es, mes, b, s, h, hv, c => by
    refine k_bm (G := fun mes => evAnd Γ ρ mes = some b → _) h (fun y ys h1 h2 hv => ?_) hv
    refine fun E => wpAny_allTrue_And_cons (evAnd_cons hv (fun hy hb => ?_) fun hy hb => ?_)
    · refine wpAny_mono (IH e y h1 ρ _ env P s A hy c E) (fun v s1 h => ?_) fun _ _ x => x
      rw [h.1]
      exact ts_after h.2 (tand_ok es ys b s1 h2 hb (c.keeps h.2))
    · refine wpAny_mono (IH e y h1 ρ _ env P s A hy c E) (fun v s1 h => ?_) fun _ _ x => x
      rw [h.1, hb]
      exact ⟨rfl, h.2⟩
theorem tor_ok : ∀ (es : List Expr) (mes : List ME) (b : Bool) (s : Shared), mapO (cT S.gt n nx cx) es = some mes → evOr Γ ρ mes = some b → Ctx0 S L cx env ρ P s A →
    TsOk prog w A (allTrue .Or es env) s b
  | [], mes, b, s, h, hv, c => by
    cases h
    cases hv
    exact fun E => wpAny_allTrue_Or_nil ⟨rfl, keeps_refl s⟩
  | e :: es, mes, b, s, h, hv, c => by
    refine k_bm (G := fun mes => evOr Γ ρ mes = some b → _) h (fun y ys h1 h2 hv => ?_) hv
    refine fun E => wpAny_allTrue_Or_cons (evOr_cons hv (fun hy hb => ?_) fun hy hb => ?_)
    · refine wpAny_mono (IH e y h1 ρ _ env P s A hy c E) (fun v s1 h => ?_) fun _ _ x => x
      rw [h.1, hb]
      exact ⟨rfl, h.2⟩
    · refine wpAny_mono (IH e y h1 ρ _ env P s A hy c E) (fun v s1 h => ?_) fun _ _ x => x
      rw [h.1]
      exact ts_after h.2 (tor_ok es ys b s1 h2 hb (c.keeps h.2))

/-- the forIn of a comprehension's tests -/
theorem tests_ok : ∀ (es : List Expr) (mes : List ME) (b : Bool) (s : Shared), mapO (cT S.gt n nx cx) es = some mes → evAnd Γ ρ mes = some b → Ctx0 S L cx env ρ P s A →
    TsOk prog w A (testsOf es env) s b
  | [], mes, b, s, h, hv, c => by
    cases h
    cases hv
    exact fun E => by rw [testsOf, List.forIn_nil]; exact wpAny_pure ⟨rfl, keeps_refl s⟩
  | e :: r, mes, b, s, h, hv, c => by
    refine k_bm (G := fun mes => evAnd Γ ρ mes = some b → _) h (fun y ys h1 h2 hv => ?_) hv
    intro E
    rw [testsOf, List.forIn_cons, if_pos rfl]
    refine wpAny_bind (wpAny_bind (evAnd_cons hv (fun hy hb => ?_) fun hy hb => ?_))
    · refine wpAny_mono (IH e y h1 ρ _ env P s A hy c E) (fun v s1 h => ?_) fun _ _ x => x
      rw [h.1]
      exact wpAny_pure (ts_after h.2 (tests_ok r ys b s1 h2 hb (c.keeps h.2)))
    · refine wpAny_mono (IH e y h1 ρ _ env P s A hy c E) (fun v s1 h => ?_) fun _ _ x => x
      rw [h.1, hb]
      exact wpAny_pure (ts_after h.2 (tests_skip r s1))
end
end
end Mine
end

section
open PySem PyProof.Rows PySem.W
set_option Elab.async false
set_option linter.unusedVariables false
set_option linter.unusedSimpArgs false
namespace Mine
section
variable {S : Sys} {prog : Program} {w : World} {L : Nat} {Γ : Ctab} {cx : Cx} {env : Env} {ρ : Env0} {P : Addr → Prop} {s : Shared} {A : Around} {E : Value → Shared → Prop}

theorem eval_CallName (f : Str) (fp : Pos) (args : List Expr) (pos : Pos) (env : Env) : eval (.Call (.Name f fp) args [] pos) env =
    (eval (.Name f fp) env >>= fun v => callWith pos v [] (backTo pos (starEach args env)) []) := rfl

theorem isGlob_of {f : Str} (he : EnvOk cx env) (h : isGlob cx f = true) : env.kindOf f = some .globalImplicit ∧ (f == ("__debug__" : Str)) = false := by
  unfold isGlob at h
  simp only [Bool.and_eq_true, beq_iff_eq, Bool.not_eq_true'] at h
  exact ⟨by rw [kindOf_eq he]; exact h.1, h.2⟩

theorem name_fn {f : Str} {fp : Pos} {a : Addr} {Q : Value → Shared → Prop} (c : Ctx0 S L cx env ρ P s A) (h : isGlob cx f = true) (hm : S.mg f = some (.ref a)) (hq : Q (.ref a) s) : wpAny (model prog w) A (eval (.Name f fp) env) Q E s := by
  obtain ⟨h1, h2⟩ := isGlob_of c.e h
  exact Calls.Name_function_global c.e.kind h1 (Calls.loadGlobal_global (by rw [c.e.globals]; exact c.b.g) hm hq) h2
theorem name_bi {f : Str} {fp : Pos} {v : Value} {Q : Value → Shared → Prop} (c : Ctx0 S L cx env ρ P s A) (h : isGlob cx f = true) (hm : biTab.lookup f = some v) (hq : Q v s) : wpAny (model prog w) A (eval (.Name f fp) env) Q E s := by
  obtain ⟨h1, h2⟩ := isGlob_of c.e h
  obtain ⟨h3, h4⟩ := c.b.ok.bi _ _ hm
  exact Calls.Name_function_global c.e.kind h1 (Calls.loadGlobal_builtin (by rw [c.e.globals]; exact c.b.g) h3 (by rw [c.e.builtins]; exact c.b.b) h4 hq) h2

theorem r_call {n nx : Nat} (hΓ : GoodΓ S prog w L Γ) (IH : ∀ e me, cE S.gt n nx cx e = some me → SB S prog w L Γ cx e me) {f : Str} {fp pos : Pos} {k : Nat} {args : List Expr} {mes : List ME} {vs : List V} {d : PyData}
    (c : Ctx0 S L cx env ρ P s A) (hg : isGlob cx f = true) (hf : S.gt.fn.lookup f = some k) (hm : mapO (cE S.gt n nx cx) args = some mes) (hv : evAs Γ ρ mes = some vs) (hd : Γ k vs = some d) :
    EvOk prog w A (eval (.Call (.Name f fp) args [] pos) env) P s d := fun E => by
  obtain ⟨h1, o, fd, h2, h3⟩ := c.b.ok.fn _ _ hf
  rw [eval_CallName]
  refine wpAny_bind (name_fn c hg h1 ?_)
  refine Calls.callWith_function (o := o) (fd := fd) (evalArgs_all (mapO_noStar hm) (wpAny_mono (as_ok IH pos args mes vs s E hm hv c) (fun as s1 h => ?_) fun _ _ x => x))
  obtain ⟨k1, r1⟩ := h
  refine ⟨⟨keeps_le k1 _ _ (c.b.kin _ _ h2), h3⟩, ?_⟩
  exact EvOk.after k1 (hΓ k vs d hd A (Up P s) s1 as c.m (c.b.keeps (keeps_le k1)) r1)

theorem r_bi1 {n nx : Nat} (IH : ∀ e me, cE S.gt n nx cx e = some me → SB S prog w L Γ cx e me) {f : Str} {fp pos : Pos} {id : String} {a : Expr} {me : ME} {x d : PyData}
    (c : Ctx0 S L cx env ρ P s A) (hg : isGlob cx f = true) (hf : biTab.lookup f = some (.builtin id)) (hm : cE S.gt n nx cx a = some me) (hv : evP Γ ρ me = some x)
    (h : ∀ v s1, Rd (Up P s) s1.heap v x → EvOk prog w A (call (.builtin id) [v]) (Up P s) s1 d) :
    EvOk prog w A (eval (.Call (.Name f fp) [a] [] pos) env) P s d := fun E => by
  rw [eval_CallName]
  refine wpAny_bind (name_bi c hg hf ?_)
  have hns : noStar [a] = true := by rw [cE_star hm]; rfl
  refine Calls.callWith_builtin (starEach_plain _ _ hns) (evalArgs_all hns ?_)
  refine wpAny_items_cons (((IH a me hm).e ρ x env P s A hv c).bind fun v s1 k1 r1 => wpAny_items_nil ?_) (starEach_cons hns).1
  exact EvOk.after k1 (h v s1 r1)
theorem r_ty1 {n nx : Nat} (IH : ∀ e me, cE S.gt n nx cx e = some me → SB S prog w L Γ cx e me) {f : Str} {fp pos : Pos} {id : String} {a : Expr} {me : ME} {x d : PyData}
    (c : Ctx0 S L cx env ρ P s A) (hg : isGlob cx f = true) (hf : biTab.lookup f = some (.type id)) (hm : cE S.gt n nx cx a = some me) (hv : evP Γ ρ me = some x)
    (h : ∀ v s1, Rd (Up P s) s1.heap v x → EvOk prog w A (call (.type id) [v]) (Up P s) s1 d) :
    EvOk prog w A (eval (.Call (.Name f fp) [a] [] pos) env) P s d := fun E => by
  rw [eval_CallName]
  refine wpAny_bind (name_bi c hg hf ?_)
  have hns : noStar [a] = true := by rw [cE_star hm]; rfl
  refine PySem.callWith_type (starEach_plain _ _ hns) (evalArgs_all hns ?_)
  refine wpAny_items_cons (((IH a me hm).e ρ x env P s A hv c).bind fun v s1 k1 r1 => wpAny_items_nil ?_) (starEach_cons hns).1
  exact EvOk.after k1 (h v s1 r1)

theorem r_sumL {n nx : Nat} (IH : ∀ e me, cE S.gt n nx cx e = some me → SB S prog w L Γ cx e me) {f : Str} {fp pos lp : Pos} {a : Expr} {me : ME} {xs ys : List PyData}
    (c : Ctx0 S L cx env ρ P s A) (hg : isGlob cx f = true) (hf : f = Str.ofString "sum") (hm : cE S.gt n nx cx a = some me) (hv : evP Γ ρ me = some (.list xs)) (hz : sumLists xs = some ys) (hsz : ys.length ≤ 1000000) :
    EvOk prog w A (eval (.Call (.Name f fp) [a, .List [] lp] [] pos) env) P s (.list ys) := fun E => by
  rw [eval_CallName]
  subst hf
  refine wpAny_bind (name_bi c hg (v := .builtin "sum") (by decide +kernel) ?_)
  have hns : noStar [a, .List [] lp] = true := by rw [cE_star hm]; rfl
  refine Calls.callWith_builtin (starEach_plain _ _ hns) (evalArgs_all hns ?_)
  refine wpAny_items_cons (((IH a me hm).e ρ _ env P s A hv c).bind fun v s1 k1 r1 => ?_) (starEach_cons hns).1
  refine wpAny_items_cons (wpAny_List (wpAny_items_nil ⟨Nat.zero_le _, wpAny_items_nil ?_⟩)) rfl
  have k2 : Keeps s { s1 with heap := s1.heap.push { cls := .type "list", data := .seq ([] : List Value).toArray } } := keeps_trans k1 (keeps_heap' (Le.push _ _))
  refine EvOk.after k2 (wpAny_sumL c.m (s := { s1 with heap := s1.heap.push { cls := .type "list", data := .seq ([] : List Value).toArray } }) (r1.mono (fun _ _ _ p => p) (.of_le (Le.push _ _))) ?_ hz hsz)
  refine .list (n := 0) (vs := #[]) (.inr ?_) (Heap.get?_push_size _ rfl) (Nat.zero_le _) .nil
  cases q : s.heap.get? s1.heap.objs.size with
  | none => rfl
  | some o => exact absurd (Heap.lt_size (keeps_le k1 _ _ q)) (Nat.lt_irrefl _)

theorem r_range {n nx : Nat} (IH : ∀ e me, cE S.gt n nx cx e = some me → SB S prog w L Γ cx e me) {f : Str} {fp pos : Pos} {a : Expr} {me : ME} {i : Int}
    (c : Ctx0 S L cx env ρ P s A) (hg : isGlob cx f = true) (hf : f = Str.ofString "range") (hm : cE S.gt n nx cx a = some me) (hv : evP Γ ρ me = some (.int i)) (hi : i ≤ 1000000) (hi0 : -1000000000 ≤ i) :
    SrcOk prog w A (eval (.Call (.Name f fp) [a] [] pos) env) P s (rangeD i) := fun Q E h => by
  rw [eval_CallName]
  subst hf
  refine wpAny_bind (name_bi c hg (v := .type "range") (by decide +kernel) ?_)
  have hns : noStar [a] = true := by rw [cE_star hm]; rfl
  refine PySem.callWith_type (starEach_plain _ _ hns) (evalArgs_all hns ?_)
  refine wpAny_items_cons (((IH a me hm).e ρ _ env P s A hv c).bind fun v s1 k1 r1 => wpAny_items_nil ?_) (starEach_cons hns).1
  cases r1
  refine call_range_1 ?_
  refine h _ _ (keeps_trans k1 ⟨_, _, rfl, Le.push _ _⟩) (iter_range c.m.hd (IsRange.new ..) hi hi0) ?_
  simp only [rangeD, List.length_map, List.length_range]
  omega

theorem getL_hit {name : Str} {e : DictEntry} {r : List DictEntry} (h : e.key.isStr name = true) : getL name (e :: r) = some (some e.val) := by
  unfold getL
  rw [List.find?_cons, h]
theorem getL_skip {name : Str} {e : DictEntry} {r : List DictEntry} (h : e.key.isStr name = false) (h2 : e.refKey = false) : getL name (e :: r) = getL name r := by
  unfold getL
  rw [List.find?_cons, h, List.any_cons, h2, Bool.false_or]
theorem getL_none {name : Str} : getL name [] = some none := rfl

theorem getL_tab {S : Sys} (ok : SysOk S) {i : Nat} {x : Str} (h : attrName i = some x) (h1 h2 h3 : Int) (t1 t2 t3 : Tok) (vw vm vj : Value) :
    getL x [⟨h1, .str (Str.ofString "wide") t1, vw⟩, ⟨h2, .str (Str.ofString "marks") t2, vm⟩, ⟨h3, .str (Str.ofString "joiners") t3, vj⟩] = some (some (if i = 0 then vw else if i = 1 then vm else vj)) := by
  unfold attrName at h
  have e1 : (Str.ofString "wide" == Str.ofString "marks") = false := by decide +kernel
  have e2 : (Str.ofString "wide" == Str.ofString "joiners") = false := by decide +kernel
  have e3 : (Str.ofString "marks" == Str.ofString "joiners") = false := by decide +kernel
  split at h
  · cases h; subst_vars
    rw [getL_hit (by simp [Value.isStr])]; simp
  · split at h
    · cases h; subst_vars
      rw [getL_skip (by exact e1) rfl, getL_hit (by simp [Value.isStr])]; simp
    · split at h
      · cases h; subst_vars
        rw [getL_skip (by exact e2) rfl, getL_skip (by exact e3) rfl, getL_hit (by simp [Value.isStr])]; simp
      · cases h

theorem inst_tab {h : Heap} {x dx : Addr} {C : Addr} {es : List DictEntry} {n : Nat} (h1 : h.get? x = some (instObj C dx)) (h2 : h.get? dx = some (dictOf es n)) : InstAt h x (instObj C dx) C (some (dictOf es n)) :=
  ⟨h1, rfl, rfl, h2⟩

theorem Rd.handed {h : Heap} {v : Value} {d : PyData} (r : Rd P h v d) : handedIn v = true := by cases r <;> rfl

theorem r_attr {x name : Str} {xp pos : Pos} {i : Nat} {wd m j : PyData} (c : Ctx0 S L cx env ρ P s A) (hx : EvOkV S prog w A (eval (.Name x xp) env) P s (.tab wd m j)) (hn : attrName i = some name) :
    EvOk prog w A (eval (.Attribute (.Name x xp) name pos) env) P s (if i = 0 then wd else if i = 1 then m else j) := fun E => by
  refine Attribute_Name_ (wpAny_mono (hx E) (fun v s1 h => ?_) fun _ _ x => x) rfl
  obtain ⟨k1, x1, dx, vw, vm, vj, n, h1, h2, h3, t1, t2, t3, rfl, px, pd, ex, ed, rw, rm, rj⟩ := h
  have rr : Rd (Up P s) s1.heap (if i = 0 then vw else if i = 1 then vm else vj) (if i = 0 then wd else if i = 1 then m else j) := by
    split
    · exact rw
    · split
      · exact rm
      · exact rj
  refine get_value (c.b.kin.keeps (keeps_le k1)) (inst_tab ex ed) (plainGet_of (K := S.K) (C := S.C) (name := Str.ofString "") c.b.ok.pg).1 (findObj_own c.b.ok.hd (c.b.ok.at_ _ _ hn) rfl (getL_tab c.b.ok hn ..)) rr.handed ⟨keeps_trans k1 (keeps_tok s1 _), rr⟩

theorem eval_meth (x : Str) (p : Pos) (name : Str) (apos pos : Pos) (args : List Expr) (env : Env) (hline : (apos.endLine == pos.line) = true) (hns : noStar args = true) (hlen : args.length < 30) :
    eval (.Call (.Attribute (.Name x p) name apos) args [] pos) env = (do
      let ov ← eval (.Name x p) env
      standAt apos.atName
      let (f, first) ← holding [ov] (getMethod ov name (do return (← importBound (.Name x p) env).getD true))
      callWith pos f first (backTo pos (starEach args env)) []) := by
  have h1 : methodCallForm (args.length + ([] : List Keyword).length) (backTo pos (starEach args env)) (backToKw pos (keywordEach [] env)) = true := by
    unfold methodCallForm
    rw [starEach_all args pos hns]
    have hk : backToKw pos (keywordEach [] env) = [] := rfl
    rw [hk]
    simp [hlen]
  have h2 : methodCallPos true (.Name x p) env apos pos = pure pos := by unfold methodCallPos; simp [hline]
  show (do
    let ov ← eval (.Name x p) env
    standAt apos.atName
    methodCall (.Name x p) name apos pos env ov (args.length + ([] : List Keyword).length) (backTo pos (starEach args env)) (backToKw pos (keywordEach [] env))) = _
  unfold methodCall
  rw [h1, h2]
  rfl

theorem r_meth {n nx : Nat} (hΓ : GoodΓ S prog w L Γ) (IH : ∀ e me, cE S.gt n nx cx e = some me → SB S prog w L Γ cx e me) {x name : Str} {xp apos pos : Pos} {k : Nat} {args : List Expr} {mes : List ME} {vs : List V} {wd m j d : PyData}
    (c : Ctx0 S L cx env ρ P s A) (hx : EvOkV S prog w A (eval (.Name x xp) env) P s (.tab wd m j)) (hf : S.gt.meth.lookup name = some k) (hm : mapO (cE S.gt n nx cx) args = some mes) (hv : evAs Γ ρ mes = some vs) (hd : Γ k (.tab wd m j :: vs) = some d)
    (hline : (apos.endLine == pos.line) = true) (hlen : args.length < 30) : EvOk prog w A (eval (.Call (.Attribute (.Name x xp) name apos) args [] pos) env) P s d := fun E => by
  rw [eval_meth _ _ _ _ _ _ _ hline (mapO_noStar hm) hlen]
  refine wpAny_bind (wpAny_mono (hx E) (fun v s1 h => wpAny_bind (wpAny_standAt (wpAny_bind (wpAny_holding ?_)))) fun _ _ x => x)
  obtain ⟨k1, rt⟩ := h
  have c1 := c.keeps k1
  obtain ⟨x1, dx, vw, vm, vj, n, h1, h2, h3, t1, t2, t3, rfl, px, pd, ex, ed, rw, rm, rj⟩ := id rt
  obtain ⟨f1, f2, f3⟩ := c.b.ok.meth _ _ hf
  obtain ⟨o, fd, g1, g2⟩ := c.b.ok.methf _ _ hf
  have pg := plainGet_of (K := S.K) (C := S.C) (name := Str.ofString "") c.b.ok.pg
  have hsh : shadowIn (some (dictOf [⟨h1, .str (Str.ofString "wide") t1, vw⟩, ⟨h2, .str (Str.ofString "marks") t2, vm⟩, ⟨h3, .str (Str.ofString "joiners") t3, vj⟩] n)) name = some false := by
    show (lookIn name (dictOf _ _)).map _ = _
    rw [lookIn_dict]
    rw [getL_skip (by exact (f3 0 _ rfl).1) rfl, getL_skip (by exact (f3 1 _ rfl).1) rfl, getL_skip (by exact (f3 2 _ rfl).1) rfl, getL_none]
    rfl
  refine method_fn (c.b.kin.keeps (keeps_le k1)) (inst_tab ex ed) pg.1 pg.2 f1 (beq_iff_eq.mp f2) hsh ?_
  refine Calls.callWith_function (o := o) (fd := fd) (evalArgs_all (mapO_noStar hm) (wpAny_mono (as_ok IH pos args mes vs s1 E hm hv c1) (fun as s2 h => ?_) fun _ _ x => x))
  obtain ⟨k2, r2⟩ := h
  have k02 := keeps_trans k1 k2
  refine ⟨⟨keeps_le k02 _ _ (c.b.kin _ _ g1), g2⟩, ?_⟩
  refine EvOk.after k02 (hΓ k (.tab wd m j :: vs) d hd A (Up P s) s2 (.ref x1 :: as) c.m (c.b.keeps (keeps_le k02)) (.cons (Rep.later k2 rt) (r2.mono (fun a _ _ p => up_keep k1 a p) (.of_le (Le.refl _)))))
end
end Mine
end

section
open PySem PyProof.Rows PySem.W
set_option Elab.async false
set_option linter.unusedVariables false
set_option linter.unusedSimpArgs false
namespace Mine
section
variable {S : Sys} {prog : Program} {w : World} {L : Nat} {Γ : Ctab} {cx : Cx} {env : Env} {ρ : Env0} {P : Addr → Prop} {s : Shared} {A : Around} {E : Value → Shared → Prop}

theorem r_list {n nx : Nat} (IH : ∀ e me, cE S.gt n nx cx e = some me → SB S prog w L Γ cx e me) {es : List Expr} {mes : List ME} {ds : List PyData} {pos : Pos}
    (c : Ctx0 S L cx env ρ P s A) (hl : es.length ≤ 1000) (hm : mapO (cE S.gt n nx cx) es = some mes) (hv : evDs Γ ρ mes = some ds) : EvOk prog w A (eval (.List es pos) env) P s (.list ds) := fun E => by
  refine wpAny_List (wpAny_mono (ds_ok IH pos es mes ds s E hm hv c) (fun vs s1 h => ?_) fun _ _ x => x)
  obtain ⟨k1, r1⟩ := h
  have hlen : vs.length ≤ 1000 := by
    have h1 := r1.length
    have h2 := mapO_length hm
    have h3 : ∀ (mes : List ME) (ds : List PyData), evDs Γ ρ mes = some ds → ds.length = mes.length := by
      intro mes
      induction mes with
      | nil => intro ds h; simp [evDs] at h; subst h; rfl
      | cons m r ih =>
        intro ds h
        unfold evDs at h
        split at h
        · cases h; simp [ih _ ‹_›]
        · cases h
    have := h3 _ _ hv
    omega
  refine ⟨by rw [sizeLine_eq]; omega, keeps_trans k1 (keeps_heap' (Le.push _ _)), .list (n := 0) (.inr ?_) (Heap.get?_push_size _ rfl) (by simp; omega) ?_⟩
  · cases q : s.heap.get? s1.heap.objs.size with
    | none => rfl
    | some o => exact absurd (Heap.lt_size (keeps_le k1 _ _ q)) (Nat.lt_irrefl _)
  · exact r1.mono (fun _ _ _ p => p) (.of_le (Le.push _ _))
theorem r_tup {n nx : Nat} (IH : ∀ e me, cE S.gt n nx cx e = some me → SB S prog w L Γ cx e me) {es : List Expr} {mes : List ME} {ds : List PyData} {pos : Pos} {k : Nat}
    (c : Ctx0 S L cx env ρ P s A) (hl : es.length ≤ 1000) (hm : mapO (cE S.gt n nx cx) es = some mes) (hv : evDs Γ ρ mes = some ds) : EvOk prog w A (eval (.Tuple es k pos) env) P s (.tuple ds) := fun E => by
  refine wpAny_Tuple (wpAny_mono (ds_ok IH pos es mes ds s E hm hv c) (fun vs s1 h => ?_) fun _ _ x => x)
  obtain ⟨k1, r1⟩ := h
  have hlen : vs.length ≤ 1000 := by
    have h1 := r1.length
    have h2 := mapO_length hm
    have h3 : ∀ (mes : List ME) (ds : List PyData), evDs Γ ρ mes = some ds → ds.length = mes.length := by
      intro mes
      induction mes with
      | nil => intro ds h; simp [evDs] at h; subst h; rfl
      | cons m r ih =>
        intro ds h
        unfold evDs at h
        split at h
        · cases h; simp [ih _ ‹_›]
        · cases h
    have := h3 _ _ hv
    omega
  refine ⟨by rw [sizeLine_eq]; omega, keeps_trans k1 (keeps_heap' (Le.push _ _)), .tuple (n := 0) (Heap.get?_push_size _ rfl) (by simp; omega) ?_⟩
  exact r1.mono (fun _ _ _ p => p) (.of_le (Le.push _ _))

theorem r_dat {x : Str} {p : Pos} {d : PyData} (c : Ctx0 S L cx env ρ P s A) (hk : cx.names.lookup x = some .globalImplicit) (hd : S.gt.dat.lookup x = some d) (h2 : (x == ("__debug__" : Str)) = false) :
    EvOk prog w A (eval (.Name x p) env) P s d := fun E => by
  obtain ⟨v, hv, hr⟩ := c.b.dat x d hd
  refine Calls.Name_function_global c.e.kind (by rw [kindOf_eq c.e]; exact hk) (Calls.loadGlobal_global (by rw [c.e.globals]; exact c.b.g) hv ⟨keeps_refl s, ?_⟩) h2
  exact hr.mono (fun _ _ _ p => p.elim) (.of_le (Le.refl _))

/-- P, but what stands -/
noncomputable def Liv (P : Addr → Prop) (s : Shared) : Addr → Prop := fun a => P a ∧ ∃ o, s.heap.get? a = some o
theorem liv_of {P : Addr → Prop} {s : Shared} (a : Addr) (o : Obj) (e : s.heap.get? a = some o) (p : P a) : Liv P s a := ⟨p, o, e⟩
theorem Rel0.liv (r : Rel0 S cx env ρ P s) : Rel0 S cx env ρ (Liv P s) s := by
  obtain ⟨m, hn, hr⟩ := r
  refine ⟨m, hn, fun k x X e1 e2 => ?_⟩
  obtain ⟨v, hv, hp⟩ := hr k x X e1 e2
  exact ⟨v, hv, hp.mono (fun a o e p => ⟨p, o, e⟩) (.of_le (Le.refl _))⟩
theorem Rel0.monoP {P' : Addr → Prop} (r : Rel0 S cx env ρ P s) (h : ∀ a, P a → P' a) : Rel0 S cx env ρ P' s := by
  obtain ⟨m, hn, hr⟩ := r
  refine ⟨m, hn, fun k x X e1 e2 => ?_⟩
  obtain ⟨v, hv, hp⟩ := hr k x X e1 e2
  exact ⟨v, hv, hp.mono (fun a o e p => h a p) (.of_le (Le.refl _))⟩
theorem Ctx0.monoP {P' : Addr → Prop} (c : Ctx0 S L cx env ρ P s A) (h : ∀ a, P a → P' a) : Ctx0 S L cx env ρ P' s A := ⟨c.e, c.r.monoP h, c.b, c.m⟩
theorem Ctx0.liv (c : Ctx0 S L cx env ρ P s A) : Ctx0 S L cx env ρ (Liv P s) s A := ⟨c.e, c.r.liv, c.b, c.m⟩

theorem lookup_relabelN_free {outer : List (Str × NameKind)} {y : Str} : ∀ {names : List (Str × NameKind)}, names.lookup y = some .free → outer.lookup y = some .cell → (relabelN outer names).lookup y = some .cell
  | [], h, _ => by simp at h
  | (n, k) :: r, h, ho => by
    unfold relabelN
    rw [List.map_cons]
    cases hy : y == n with
    | true =>
      rw [List.lookup_cons, hy] at h
      cases h
      have : y = n := beq_iff_eq.mp hy
      subst this
      have hc : ((NameKind.free == NameKind.free) && outer.lookup y == some NameKind.cell) = true := by rw [ho]; rfl
      simp only [hc, if_true]
      rw [List.lookup_cons, hy]
    | false =>
      rw [List.lookup_cons, hy] at h
      have ih := lookup_relabelN_free h ho
      unfold relabelN at ih
      by_cases hc : ((k == NameKind.free) && outer.lookup n == some NameKind.cell) = true
      · simp only [hc, if_true]; rw [List.lookup_cons, hy]; exact ih
      · simp only [hc, Bool.false_eq_true, if_false]; rw [List.lookup_cons, hy]; exact ih
theorem lookup_relabelN_local {outer : List (Str × NameKind)} {y : Str} : ∀ {names : List (Str × NameKind)}, names.lookup y = some .local → (relabelN outer names).lookup y = some .local
  | [], h => by simp at h
  | (n, k) :: r, h => by
    unfold relabelN
    rw [List.map_cons]
    cases hy : y == n with
    | true =>
      rw [List.lookup_cons, hy] at h
      cases h
      have hc : ((NameKind.local == NameKind.free) && outer.lookup n == some NameKind.cell) = false := rfl
      simp only [hc, Bool.false_eq_true, if_false]
      rw [List.lookup_cons, hy]
    | false =>
      rw [List.lookup_cons, hy] at h
      have ih := lookup_relabelN_local (outer := outer) h
      unfold relabelN at ih
      by_cases hc : ((k == NameKind.free) && outer.lookup n == some NameKind.cell) = true
      · simp only [hc, if_true]; rw [List.lookup_cons, hy]; exact ih
      · simp only [hc, Bool.false_eq_true, if_false]; rw [List.lookup_cons, hy]; exact ih
theorem relabelN_cell {outer : List (Str × NameKind)} {y : Str} : ∀ {names : List (Str × NameKind)}, (∀ z ∈ names, z.2 ≠ .cell) → (relabelN outer names).lookup y = some .cell → (y, NameKind.free) ∈ names
  | [], _, h => by simp [relabelN] at h
  | (n, k) :: r, hc, h => by
    unfold relabelN at h
    rw [List.map_cons] at h
    have ih := relabelN_cell (outer := outer) (y := y) (names := r) (fun z hz => hc z (List.mem_cons_of_mem _ hz))
    unfold relabelN at ih
    cases hy : y == n with
    | true =>
      have : y = n := beq_iff_eq.mp hy
      subst this
      by_cases hk : (k == NameKind.free) = true
      · rw [beq_iff_eq.mp hk]; exact List.mem_cons_self
      · have hc2 : ((k == NameKind.free) && outer.lookup y == some NameKind.cell) = false := by simp only [Bool.not_eq_true] at hk; rw [hk]; rfl
        simp only [hc2, Bool.false_eq_true, if_false] at h
        rw [List.lookup_cons, hy] at h
        cases h
        exact absurd rfl (hc (y, .cell) List.mem_cons_self)
    | false =>
      refine List.mem_cons_of_mem _ (ih ?_)
      by_cases hc2 : ((k == NameKind.free) && outer.lookup n == some NameKind.cell) = true
      · simp only [hc2, if_true] at h; rw [List.lookup_cons, hy] at h; exact h
      · simp only [hc2, Bool.false_eq_true, if_false] at h; rw [List.lookup_cons, hy] at h; exact h

/-- the context within a comprehension -/
theorem comp_ctx {scope : Scope} {x : Str} {nx : Nat} {C : Addr} {s₃ : Shared} {m₃ : Str → Option Value} {v : Value} {d : PyData} (c : Ctx0 S L cx env ρ P s A) (hok : compOk cx scope x = true)
    (hk : Le s.heap s₃.heap) (hn : s₃.heap.Ns C m₃) (hm : m₃ x = some v) (hr : Rd P s₃.heap v d) :
    Ctx0 S L (compCx cx nx scope.names x) (compEnvC scope (closF env.cells scope.names []) C env) (ρ.set nx (some (.dat d))) P s₃ A := by
  unfold compOk at hok
  simp only [Bool.and_eq_true, beq_iff_eq, List.all_eq_true, bne_iff_ne, Bool.or_eq_true] at hok
  obtain ⟨⟨h1, h2⟩, h3⟩ := hok
  have hnames : (relabel scope env).names = relabelN cx.names scope.names := by
    unfold relabel relabelN
    refine List.map_congr_left fun y _ => ?_
    obtain ⟨n, k⟩ := y
    show (if ((k == NameKind.free) && (env.scope.kind == .function) && (env.kindOf n == some NameKind.cell)) = true then (n, NameKind.cell) else (n, k)) = _
    rw [c.e.kind, kindOf_eq c.e]
    rw [show ((ScopeKind.function == ScopeKind.function) = true) from rfl, Bool.and_true]
  have hkin : ∀ y, Env.kindOf (compEnvC scope (closF env.cells scope.names []) C env) y = (relabelN cx.names scope.names).lookup y := fun y => by
    show (relabel scope env).names.lookup y = _
    rw [hnames]
  have hmem : ∀ (y : Str) (k : NameKind) (l : List (Str × NameKind)), l.lookup y = some k → (y, k) ∈ l := by
    intro y k l
    induction l with
    | nil => intro h; simp at h
    | cons z r ih =>
      intro h
      obtain ⟨n, j⟩ := z
      cases hy : y == n with
      | true => rw [List.lookup_cons, hy] at h; cases h; rw [beq_iff_eq.mp hy]; exact List.mem_cons_self
      | false => rw [List.lookup_cons, hy] at h; exact List.mem_cons_of_mem _ (ih h)
  have hfree : ∀ y, (y, NameKind.free) ∈ scope.names → cx.names.lookup y = some .cell ∧ (closF env.cells scope.names []).lookup y = some ((env.cells.lookup y).getD 0) := fun y hy => by
    have := (h3 _ hy).2
    refine ⟨?_, closF_lookup _ _ _ _ (.inl hy)⟩
    rcases this with h | h
    · exact absurd rfl h
    · exact h
  refine ⟨⟨h1, hnames, c.e.globals, c.e.builtins, fun y hy => ?_⟩, ?_, c.b.keeps hk, c.m⟩
  · have := relabelN_cell (fun z hz => (h3 z hz).1.1) hy
    show ((closF env.cells scope.names []).lookup y).isSome = true
    rw [(hfree y this).2]; rfl
  · refine ⟨m₃, hn, fun k y X e1 e2 => ?_⟩
    unfold compCx at e1
    simp only at e1
    by_cases hkn : nx = k
    · subst hkn
      rw [List.getElem?_set] at e1
      simp only [if_true] at e1
      split at e1
      · cases e1
        unfold valAt at e2
        rw [List.getElem?_set] at e2
        simp only [if_true] at e2
        split at e2
        · rename_i h
          split at h
          · cases h; cases e2
            exact ⟨v, .inl ⟨by rw [hkin]; exact lookup_relabelN_local h2, hm⟩, hr⟩
          · cases h
        · cases e2
      · cases e1
    · rw [List.getElem?_set_ne hkn, List.getElem?_map] at e1
      have e2' : valAt ρ k = some X := by
        unfold valAt at e2 ⊢
        rwa [List.getElem?_set_ne hkn] at e2
      obtain ⟨q, hq, hq2⟩ := Option.map_eq_some_iff.mp e1
      cases q with
      | none => cases hq2
      | some z =>
        simp only at hq2
        split at hq2
        · rename_i hz
          cases hq2
          have hz' := hmem y .free _ (beq_iff_eq.mp hz)
          obtain ⟨f1, f2⟩ := hfree y hz'
          obtain ⟨m, hn0, hr0⟩ := c.r
          obtain ⟨u, hu, hp⟩ := hr0 k y X hq e2'
          refine ⟨u, .inr ⟨by rw [hkin]; exact lookup_relabelN_free (beq_iff_eq.mp hz) f1, ?_⟩, hp.mono (fun _ _ _ p => p) (.of_le hk)⟩
          rcases hu with ⟨hu, _⟩ | ⟨_, cc, hu, hcc⟩
          · rw [kindOf_eq c.e, f1] at hu; cases hu
          · refine ⟨cc, ?_, hcc.keeps hk⟩
            show (closF env.cells scope.names []).lookup y = some cc
            rw [f2, hu]; rfl
        · cases hq2

theorem comp_gen {n nx m2 : Nat} {scope : Scope} {x : Str} {px pos ipos : Pos} {elt iter : Expr} {ifs : List Expr} {me : ME} {ts : List ME} {xs ys : List PyData} {use : Option (Value → Sem Unit)} {Q : Value → Shared → Prop}
    (IH : ∀ cx' me, cE S.gt n (nx + 1) cx' elt = some me → SE S prog w L Γ cx' elt me) (IHT : ∀ cx' e me, cT S.gt n (nx + 1) cx' e = some me → ST S prog w L Γ cx' e me)
    (c : Ctx0 S L cx env ρ P s A) (hok : compOk cx scope x = true) (hns : notSet iter = true) (hsrc : SrcOk prog w A (eval iter env) P s xs)
    (hme : cE S.gt n (nx + 1) (compCx cx nx scope.names x) elt = some me) (hts : mapO (cT S.gt n (nx + 1) (compCx cx nx scope.names x)) ifs = some ts)
    (hgo : compGo (fun d => evAnd Γ (ρ.set nx (some (.dat d))) ts) (fun d => evP Γ (ρ.set nx (some (.dat d))) me) xs = some ys)
    (hpost : ∀ (D C : Addr) (s' : Shared) (m' : Str → Option Value), Keeps s s' → s.heap.get? D = none → s.heap.get? C = none → s'.heap.Ns C m' →
      (∀ h'', Heap.SameBut C s'.heap h'' → Le s.heap h'' ∧ Rd (Up P s) h'' (.ref D) (.list ys)) → Rd (Up P s) s'.heap (.ref D) (.list ys) → compPost (model prog w) A E use Q (.ref D) C (.ok .next) s') :
    wpAny (model prog w) A (comprehension (.ListComp elt [⟨.Name x px, iter, ifs, 0⟩] scope pos) scope env ipos (newList []) false (eval iter env) use) Q E s := by
  have hok' := hok
  unfold compOk at hok'
  simp only [Bool.and_eq_true, beq_iff_eq, List.all_eq_true, bne_iff_ne, Bool.or_eq_true] at hok'
  obtain ⟨⟨h1, h2⟩, h3⟩ := hok'
  have hclos : closureFor scope env = pure (closF env.cells scope.names []) := closureFor_closF fun y hy hf => by
    rcases (h3 y hy).2 with h | h
    · exact absurd hf h
    · exact c.e.cells _ h
  refine wpAny_comprehension_free (g := ⟨.Name x px, iter, ifs, 0⟩) rfl (folded_notSet hns env) hclos h1 (fun y hy hl => ?_) ?_
  · rcases (h3 y hy).1.2 with h | h
    · exact absurd hl h
    · exact h
  · refine hsrc _ _ fun v s₁ k1 hit hlen => ?_
    refine hit _ _ fun s₂ I fp Pi St k2 hI0 hlive W hst hfp hPi => ?_
    have c1 := ((c.keeps k1).monoP (P' := Up P s) fun a p => .inl p).liv
    refine comp_block (P := Liv (Up P s) s₁) (s := s₁) (env := env) (cl := closF env.cells scope.names []) (scope := scope) (pos := pos) (RR := fun acc C => compPost (model prog w) A E use Q acc C) _ _ k2 hI0 (fun i h st => let ⟨o, e, t⟩ := hlive i h st; ⟨o, e, t.ns⟩) W (fun b hb => ?_) (fun i v hv => ?_) hgo
      (fun y hy => (h3 y hy).1.1) h1 h2 hst hlen (fun a p => p.2)
      (fun C v d b s₃ m₃ E' hf hrd hn hm hk => tests_ok (fun e me h => IHT _ e me h) ifs ts b s₃ hts hf (comp_ctx c1 hok hk hn hm hrd) E')
      (fun C v d y s₃ m₃ E' hf hg hrd hn hm hk => IH _ me hme _ y _ _ s₃ A hg (comp_ctx c1 hok hk hn hm hrd) E') ?_
    · rcases hfp b hb with e | ⟨o, e, _⟩
      · exact .inl e
      · exact .inr ⟨o, e⟩
    · obtain ⟨d, hd, hr⟩ := hPi i v hv
      exact ⟨d, hd, hr.mono (fun a o e p => ⟨p, o, e⟩) (.of_le (Le.refl _))⟩
    · intro D C h' tk m' hD hC hn hsame hrd hle
      have upP : ∀ a, Up (Liv (Up P s) s₁) s₁ a → Up P s a := fun a p => by
        rcases p with p | p
        · exact p.1
        · right
          cases e : s.heap.get? a with
          | none => rfl
          | some o => rw [keeps_le k1 _ _ e] at p; cases p
      have up0 : ∀ a, s₁.heap.get? a = none → s.heap.get? a = none := fun a p => by
        cases e : s.heap.get? a with
        | none => rfl
        | some o => rw [keeps_le k1 _ _ e] at p; cases p
      have hk' : Keeps s { s₂ with heap := h', toks := tk } := by
        obtain ⟨h2, t2, rfl, _⟩ := keeps_trans k1 k2
        exact ⟨h', tk, rfl, Le.trans (keeps_le k1) hle⟩
      refine hpost D C { s₂ with heap := h', toks := tk } m' hk' (up0 _ hD) (up0 _ hC) hn (fun h'' hs => ?_) ?_
      · obtain ⟨q1, q2⟩ := hsame h'' hs
        exact ⟨Le.trans (keeps_le k1) q1, q2.mono (fun a _ _ p => upP a p) (.of_le (Le.refl _))⟩
      · exact hrd.mono (fun a _ _ p => upP a p) (.of_le (Le.refl _))

theorem r_comp {n nx : Nat} {scope : Scope} {x : Str} {px pos : Pos} {elt iter : Expr} {ifs : List Expr} {me : ME} {ts : List ME} {xs ys : List PyData}
    (IH : ∀ cx' me, cE S.gt n (nx + 1) cx' elt = some me → SE S prog w L Γ cx' elt me) (IHT : ∀ cx' e me, cT S.gt n (nx + 1) cx' e = some me → ST S prog w L Γ cx' e me)
    (c : Ctx0 S L cx env ρ P s A) (hok : compOk cx scope x = true) (hns : notSet iter = true) (hsrc : SrcOk prog w A (eval iter env) P s xs)
    (hme : cE S.gt n (nx + 1) (compCx cx nx scope.names x) elt = some me) (hts : mapO (cT S.gt n (nx + 1) (compCx cx nx scope.names x)) ifs = some ts)
    (hgo : compGo (fun d => evAnd Γ (ρ.set nx (some (.dat d))) ts) (fun d => evP Γ (ρ.set nx (some (.dat d))) me) xs = some ys) :
    EvOk prog w A (eval (.ListComp elt [⟨.Name x px, iter, ifs, 0⟩] scope pos) env) P s (.list ys) := fun E => by
  rw [eval_ListComp]
  refine comp_gen (use := none) (m2 := 0) IH IHT c hok hns hsrc hme hts hgo fun D C s' m' k1 hD hC hn hs hr => ⟨m', hn, fun h'' hs'' => ?_⟩
  obtain ⟨q1, q2⟩ := hs h'' hs''
  obtain ⟨h2, t2, rfl, _⟩ := k1
  exact ⟨⟨h'', t2, rfl, q1⟩, q2⟩
end
end Mine
end

section
open PySem PyProof.Rows PySem.W
set_option Elab.async false
set_option linter.unusedVariables false
set_option linter.unusedSimpArgs false
namespace Mine
section
variable {S : Sys} {prog : Program} {w : World} {L : Nat} {Γ : Ctab}

noncomputable def SP (S : Sys) (prog : Program) (w : World) (L : Nat) (Γ : Ctab) (cx : Cx) (e : Option Expr) (me : ME) : Prop :=
  ∀ ρ d env P s A, evP Γ ρ me = some d → Ctx0 S L cx env ρ P s A → EvOk prog w A (evalPart e env) P s d
noncomputable def SS (S : Sys) (prog : Program) (w : World) (L : Nat) (Γ : Ctab) (cx : Cx) (e : Expr) (me : ME) : Prop :=
  ∀ ρ d xs env P s A, evP Γ ρ me = some d → items d = some xs → Ctx0 S L cx env ρ P s A → SrcOk prog w A (eval e env) P s xs

structure Sound (S : Sys) (prog : Program) (w : World) (L : Nat) (Γ : Ctab) (n : Nat) : Prop where
  e : ∀ nx cx e me, cE S.gt n nx cx e = some me → SB S prog w L Γ cx e me
  p : ∀ nx cx e me, cP S.gt n nx cx e = some me → SP S prog w L Γ cx e me
  s : ∀ nx cx e me, cSrc S.gt n nx cx e = some me → SS S prog w L Γ cx e me
  t : ∀ nx cx e me, cT S.gt n nx cx e = some me → ST S prog w L Γ cx e me

theorem ev_two {ρ : Env0} {a b : ME} {f : PyData → PyData → Option PyData} {d : PyData} (hv : (match evP Γ ρ a, evP Γ ρ b with | some x, some y => f x y | _, _ => none) = some d) : ∃ x y, evP Γ ρ a = some x ∧ evP Γ ρ b = some y ∧ f x y = some d := by
  cases h1 : evP Γ ρ a with
  | none => rw [h1] at hv; cases hv
  | some x => cases h2 : evP Γ ρ b with
    | none => rw [h1, h2] at hv; cases hv
    | some y => rw [h1, h2] at hv; exact ⟨x, y, rfl, rfl, hv⟩
theorem ev_one {ρ : Env0} {a : ME} {f : PyData → Option PyData} {d : PyData} (hv : (match evP Γ ρ a with | some x => f x | none => none) = some d) : ∃ x, evP Γ ρ a = some x ∧ f x = some d := by
  cases h1 : evP Γ ρ a with
  | none => rw [h1] at hv; cases hv
  | some x => rw [h1] at hv; exact ⟨x, rfl, hv⟩
/-- two comparisons in a chain -/
theorem ev_cmp2 {ρ : Env0} {o1 o2 : CO} {a b c : ME} {d : PyData} (hv : evP Γ ρ (.cmp2 o1 o2 a b c) = some d) : ∃ x y b1, evP Γ ρ a = some x ∧ evP Γ ρ b = some y ∧ cmpD o1 x y = some b1 ∧ ((b1 = true ∧ ∃ z b2, evP Γ ρ c = some z ∧ cmpD o2 y z = some b2 ∧ d = .bool b2) ∨ (b1 = false ∧ d = .bool false)) := by
  obtain ⟨x, y, hx, hy, hv⟩ := ev_two (f := fun x y => match cmpD o1 x y with | some true => (match evP Γ ρ c with | some z => (cmpD o2 y z).map .bool | none => none) | some false => some (.bool false) | none => none) hv
  cases hc : cmpD o1 x y with
  | none => rw [hc] at hv; cases hv
  | some b1 =>
    rw [hc] at hv
    refine ⟨x, y, b1, hx, hy, hc, ?_⟩
    cases b1 with
    | false => cases hv; exact .inr ⟨rfl, rfl⟩
    | true =>
      obtain ⟨z, hz, hv⟩ := ev_one (f := fun z => (cmpD o2 y z).map .bool) hv
      obtain ⟨b2, h1, h2⟩ := map_some hv
      exact .inl ⟨rfl, z, b2, hz, h1, h2.symm⟩
theorem ite_cases {ρ : Env0} {t a b : ME} {d : PyData} (hv : evP Γ ρ (.ite t a b) = some d) : (evP Γ ρ t = some (.bool true) ∧ evP Γ ρ a = some d) ∨ (evP Γ ρ t = some (.bool false) ∧ evP Γ ρ b = some d) := by
  have hv : (match evP Γ ρ t with | some (.bool true) => evP Γ ρ a | some (.bool false) => evP Γ ρ b | _ => none) = some d := hv
  cases ht : evP Γ ρ t with
  | none => rw [ht] at hv; cases hv
  | some x =>
    rw [ht] at hv
    cases x with
    | bool v => cases v with
      | true => exact .inl ⟨rfl, hv⟩
      | false => exact .inr ⟨rfl, hv⟩
    | _ => cases hv
theorem not_false' {b : Bool} (h : (!b) = true) : b = false := by cases b with | true => cases h | false => rfl

section
variable {cx : Cx}
theorem st_plain {e : Expr} {me : ME} (h : SE S prog w L Γ cx e me) (hw : ∀ env whole, isTrue e env whole = (do let v ← whole; standAt e.pos; holding [v] (truthy v))) : ST S prog w L Γ cx e me :=
  fun ρ b env P s A hv c => t_plain (h ρ _ env P s A hv c) (hw env)
theorem ev_not {ρ : Env0} {m : ME} {b : Bool} (hv : evP Γ ρ (.not m) = some (.bool b)) : ∃ v, evP Γ ρ m = some (.bool v) ∧ (!v) = b := by
  have hv : (match evP Γ ρ m with | some (.bool b) => some (.bool !b) | _ => none) = some (PyData.bool b) := hv
  cases hm : evP Γ ρ m with
  | none => rw [hm] at hv; cases hv
  | some z => rw [hm] at hv; cases z with
    | bool v => cases hv; exact ⟨v, rfl, rfl⟩
    | _ => cases hv
theorem st_not {x : Expr} {m : ME} {p : Pos} (h : ST S prog w L Γ cx x m) : ST S prog w L Γ cx (.UnaryOp .Not x p) (.not m) := fun ρ b env P s A hv c => by
  obtain ⟨v, hx, hb⟩ := ev_not hv
  rw [← hb]
  exact t_not (h ρ _ env P s A hx c)
theorem st_and {n nx : Nat} {es : List Expr} {ms : List ME} {p : Pos} (IH : ∀ e me, cT S.gt n nx cx e = some me → ST S prog w L Γ cx e me) (h : mapO (cT S.gt n nx cx) es = some ms) : ST S prog w L Γ cx (.BoolOp .And es p) (.and ms) := fun ρ b env P s A hv c => by
  obtain ⟨b', h3, h4⟩ := map_some hv
  cases h4
  exact tand_ok IH _ _ _ s h h3 c
theorem st_or {n nx : Nat} {es : List Expr} {ms : List ME} {p : Pos} (IH : ∀ e me, cT S.gt n nx cx e = some me → ST S prog w L Γ cx e me) (h : mapO (cT S.gt n nx cx) es = some ms) : ST S prog w L Γ cx (.BoolOp .Or es p) (.or ms) := fun ρ b env P s A hv c => by
  obtain ⟨b', h3, h4⟩ := map_some hv
  cases h4
  exact tor_ok IH _ _ _ s h h3 c
theorem st_ite {t a b : Expr} {mt ma mb : ME} {p : Pos} (ht : ST S prog w L Γ cx t mt) (ha : ST S prog w L Γ cx a ma) (hb : ST S prog w L Γ cx b mb) : ST S prog w L Γ cx (.IfExp t a b p) (.ite mt ma mb) := fun ρ d env P s A hv c => by
  rcases ite_cases hv with ⟨h1, h2⟩ | ⟨h1, h2⟩
  · exact t_ite (ht ρ true env P s A h1 c) (fun _ s' k => ha ρ d env P s' A h2 (c.keeps k)) (fun h => by cases h)
  · exact t_ite (ht ρ false env P s A h1 c) (fun h => by cases h) (fun _ s' k => hb ρ d env P s' A h2 (c.keeps k))
theorem se_ite {t a b : Expr} {mt ma mb : ME} {p : Pos} (ht : ST S prog w L Γ cx t mt) (ha : SE S prog w L Γ cx a ma) (hb : SE S prog w L Γ cx b mb) : SE S prog w L Γ cx (.IfExp t a b p) (.ite mt ma mb) := fun ρ d env P s A hv c => by
  rcases ite_cases hv with ⟨h1, h2⟩ | ⟨h1, h2⟩
  · exact r_ite (ht ρ true env P s A h1 c) (fun _ s' k => ha ρ d env P s' A h2 (c.keeps k)) (fun h => by cases h)
  · exact r_ite (ht ρ false env P s A h1 c) (fun h => by cases h) (fun _ s' k => hb ρ d env P s' A h2 (c.keeps k))
theorem ev_cmp1 {ρ : Env0} {o : CO} {a b : ME} {d : PyData} (hv : evP Γ ρ (.cmp o a b) = some d) : ∃ x y r, evP Γ ρ a = some x ∧ evP Γ ρ b = some y ∧ cmpD o x y = some r ∧ d = .bool r := by
  obtain ⟨x, y, hx, hy, hv⟩ := ev_two (f := fun x y => (cmpD o x y).map .bool) hv
  obtain ⟨r, h1, h2⟩ := map_some hv
  exact ⟨x, y, r, hx, hy, h1, h2.symm⟩
/-- a comparison, compiled -/
theorem k_cmp1 {E : Expr → Option ME} {l r : Expr} {o : CmpOp} {me : ME} {G : CmpOp → ME → Prop} (h : cCmp1 E l o r = some me) (k : ∀ c a b, behindInMarks (cop c) r = false → E l = some a → E r = some b → G (cop c) (.cmp c a b)) : G o me := by
  refine k_if h fun hm h => k_bbm h fun q a b _ h2 h3 => ?_
  obtain ⟨c, rfl⟩ := q
  exact k _ _ _ (not_false' hm) h2 h3
theorem k_cmp2 {E : Expr → Option ME} {l m r : Expr} {o1 o2 : CmpOp} {me : ME} {G : List CmpOp → ME → Prop} (h : cCmp2 E l o1 o2 m r = some me) (k : ∀ c1 c2 a b c, lastMarks [cop c1, cop c2] [m, r] = false → E l = some a → E m = some b → E r = some c → G [cop c1, cop c2] (.cmp2 c1 c2 a b c)) : G [o1, o2] me := by
  refine k_if h fun hm h => k_bind h fun q1 _ h => k_bbbm h fun q2 a b c _ h2 h3 h4 => ?_
  obtain ⟨c1, rfl⟩ := q1
  obtain ⟨c2, rfl⟩ := q2
  exact k _ _ _ _ _ (not_false' hm) h2 h3 h4
theorem k_cmp {E : Expr → Option ME} {l : Expr} {ops : List CmpOp} {rs : List Expr} {me : ME} {G : List CmpOp → List Expr → ME → Prop} (h : cCmp E l ops rs = some me)
    (k1 : ∀ c r a b, behindInMarks (cop c) r = false → E l = some a → E r = some b → G [cop c] [r] (.cmp c a b))
    (k2 : ∀ c1 c2 m r a b c, lastMarks [cop c1, cop c2] [m, r] = false → E l = some a → E m = some b → E r = some c → G [cop c1, cop c2] [m, r] (.cmp2 c1 c2 a b c)) : G ops rs me := by
  refine k_or (G := G ops rs) h (fun h => k_bind (G := G ops rs) h fun o _ h => k_bind (G := G ops rs) h fun r _ h => ?_) fun h => k_bind (G := G ops rs) h fun o _ h => k_bind (G := G ops rs) h fun r _ h => ?_
  · rw [o.h, r.h]
    exact k_cmp1 (G := fun o me => G [o] [r.a] me) h fun c a b hm h2 h3 => k1 c _ a b hm h2 h3
  · rw [o.h, r.h]
    exact k_cmp2 (G := fun o me => G o [r.a, r.b] me) h fun c1 c2 a b c hm h2 h3 h4 => k2 c1 c2 _ _ a b c hm h2 h3 h4
section
variable {l m r : Expr} {c c1 c2 : CO} {a b d : ME} {p : Pos} (ha : SE S prog w L Γ cx l a)
include ha
theorem st_cmp (hb : SE S prog w L Γ cx r b) (hm : behindInMarks (cop c) r = false) : ST S prog w L Γ cx (.Compare l [cop c] [r] p) (.cmp c a b) := fun ρ v env P s A hv x => by
  obtain ⟨u, y, t, hx, hy, hc, hd⟩ := ev_cmp1 hv
  cases hd
  exact t_cmp x.m (ha ρ u env P s A hx x) (fun s' k => hb ρ y env P s' A hy (x.keeps k)) hc hm
theorem se_cmp (hb : SE S prog w L Γ cx r b) (hm : behindInMarks (cop c) r = false) : SE S prog w L Γ cx (.Compare l [cop c] [r] p) (.cmp c a b) := fun ρ v env P s A hv x => by
  obtain ⟨u, y, t, hx, hy, hc, hd⟩ := ev_cmp1 hv
  subst hd
  exact r_cmp x.m (ha ρ u env P s A hx x) (fun s' k => hb ρ y env P s' A hy (x.keeps k)) hc hm
theorem st_cmp2 (hb : SE S prog w L Γ cx m b) (hd : SE S prog w L Γ cx r d) (hm : lastMarks [cop c1, cop c2] [m, r] = false) : ST S prog w L Γ cx (.Compare l [cop c1, cop c2] [m, r] p) (.cmp2 c1 c2 a b d) := fun ρ v env P s A hv x => by
  obtain ⟨u, y, b1, hx, hy, hc1, ⟨hb1, z, b2, hz, hc2, hq⟩ | ⟨hb1, hq⟩⟩ := ev_cmp2 hv
  · cases hq
    exact t_cmp2 (b1 := true) (b2 := v) x.m (ha ρ u env P s A hx x) (fun s' k => hb ρ y env P s' A hy (x.keeps k)) (fun _ s' k => hd ρ z env P s' A hz (x.keeps k)) (hb1 ▸ hc1) (fun _ => hc2) hm
  · cases hq
    exact t_cmp2 (b1 := false) (b2 := false) (z := .none) x.m (ha ρ u env P s A hx x) (fun s' k => hb ρ y env P s' A hy (x.keeps k)) (fun h => by cases h) (hb1 ▸ hc1) (fun h => by cases h) hm
theorem se_cmp2 (hb : SE S prog w L Γ cx m b) (hd : SE S prog w L Γ cx r d) (hm : lastMarks [cop c1, cop c2] [m, r] = false) : SE S prog w L Γ cx (.Compare l [cop c1, cop c2] [m, r] p) (.cmp2 c1 c2 a b d) := fun ρ v env P s A hv x => by
  obtain ⟨u, y, b1, hx, hy, hc1, ⟨hb1, z, b2, hz, hc2, hq⟩ | ⟨hb1, hq⟩⟩ := ev_cmp2 hv
  · subst hq
    exact r_cmp2 (b1 := true) (b2 := b2) x.m (ha ρ u env P s A hx x) (fun s' k => hb ρ y env P s' A hy (x.keeps k)) (fun _ s' k => hd ρ z env P s' A hz (x.keeps k)) (hb1 ▸ hc1) (fun _ => hc2) hm
  · subst hq
    exact r_cmp2 (b1 := false) (b2 := false) (z := .none) x.m (ha ρ u env P s A hx x) (fun s' k => hb ρ y env P s' A hy (x.keeps k)) (fun h => by cases h) (hb1 ▸ hc1) (fun h => by cases h) hm
end
end

theorem sound_t {n : Nat} (ih : Sound S prog w L Γ n) : ∀ nx cx e me, cT S.gt (n + 1) nx cx e = some me → ST S prog w L Γ cx e me := by
  intro nx cx e me h
  have IH := fun e me h => ih.t nx cx e me h
  have IE := fun e me h => (ih.e nx cx e me h).e
  cases e with
  | UnaryOp op x p =>
    cases op with
    | Not => exact k_map h fun m1 h1 => st_not (IH _ _ h1)
    | _ => exact st_plain (IE _ _ h) fun env whole => rfl
  | BoolOp op es p =>
    cases op with
    | And => exact k_map h fun m1 h1 => st_and IH h1
    | Or => exact k_map h fun m1 h1 => st_or IH h1
  | IfExp t a b' p => exact k_bbm h fun mt ma mb h1 h2 h3 => st_ite (IH _ _ h1) (IH _ _ h2) (IH _ _ h3)
  | Compare l ops rs p =>
    exact k_cmp (G := fun o r me => ST S prog w L Γ cx (.Compare l o r p) me) h (fun c r a b hm h1 h2 => st_cmp (IE _ _ h1) (IE _ _ h2) hm) fun c1 c2 m r a b c hm h1 h2 h3 => st_cmp2 (IE _ _ h1) (IE _ _ h2) (IE _ _ h3) hm
  | _ => exact st_plain (IE _ _ h) fun env whole => rfl
end
end Mine
end

section
open PySem PyProof.Rows PySem.W
set_option Elab.async false
set_option linter.unusedVariables false
set_option linter.unusedSimpArgs false
namespace Mine
section
variable {S : Sys} {prog : Program} {w : World} {L : Nat} {Γ : Ctab}

theorem sound_p {n : Nat} (ih : Sound S prog w L Γ n) : ∀ nx cx e me, cP S.gt (n + 1) nx cx e = some me → SP S prog w L Γ cx e me := by
  intro nx cx e me h ρ d env P s A hv c
  cases e with
  | none => cases h; cases hv; exact p_none
  | some e => exact p_some ((ih.e _ _ _ _ h).e ρ d env P s A hv c)

theorem ev_rng {ρ : Env0} {m : ME} {d : PyData} (hv : evP Γ ρ (.rng m) = some d) : ∃ i, evP Γ ρ m = some (.int i) ∧ (i ≤ 1000000 ∧ -1000000000 ≤ i) ∧ d = .list (rangeD i) := by
  have hv : (match evP Γ ρ m with | some (.int n) => if n ≤ 1000000 ∧ -1000000000 ≤ n then some (PyData.list ((List.range n.toNat).map fun (i : Nat) => PyData.int (i : Int))) else none | _ => none) = some d := hv
  cases hm : evP Γ ρ m with
  | none => rw [hm] at hv; cases hv
  | some v =>
    rw [hm] at hv
    cases v with
    | int i =>
      by_cases hb : i ≤ 1000000 ∧ -1000000000 ≤ i
      · exact ⟨i, rfl, hb, (Option.some.inj ((if_pos hb).symm.trans hv)).symm⟩
      · cases (if_neg hb).symm.trans hv
    | _ => cases hv
theorem ss_plain {cx : Cx} {e : Expr} {me : ME} (h : SE S prog w L Γ cx e me) : SS S prog w L Γ cx e me := fun ρ d xs env P s A hv hx c => src_items c.m.hd (h ρ d env P s A hv c) hx
theorem ss_range {n nx : Nat} {cx : Cx} {f : Expr} {args : List Expr} {kws : List Keyword} {pos : Pos} {me : ME} (IH : ∀ e me, cE S.gt n nx cx e = some me → SB S prog w L Γ cx e me) (q : IsRange cx f args kws) (h : cE S.gt n nx cx q.a = some me) : SS S prog w L Γ cx (.Call f args kws pos) (.rng me) := by
  obtain ⟨⟨x, p, a⟩, e1, e2, e3, e4, e5⟩ := q
  subst e1 e2 e3
  intro ρ d xs env P s A hv hx c
  obtain ⟨i, hm, hb, hd⟩ := ev_rng hv
  subst hd
  cases hx
  exact r_range IH c e5 e4 h hm hb.1 hb.2
theorem sound_s {n : Nat} (ih : Sound S prog w L Γ n) : ∀ nx cx e me, cSrc S.gt (n + 1) nx cx e = some me → SS S prog w L Γ cx e me := by
  intro nx cx e me h
  cases e with
  | Call f args kws pos =>
    exact k_or h (fun h => k_bind h fun q _ h => k_map h fun m1 h1 => ss_range (fun e me h => ih.e nx cx e me h) q h1) fun h => ss_plain (ih.e _ _ _ _ h).e
  | _ => exact ss_plain (ih.e _ _ _ _ h).e

theorem valAt_dat {ρ : Env0} {k : Nat} {d : PyData} (h : datAt ρ k = some d) : valAt ρ k = some (.dat d) := datAt_val h

theorem attr_cases {ρ : Env0} {i k : Nat} {d : PyData} (hv : evP Γ ρ (.attr i k) = some d) : ∃ wd m j, valAt ρ k = some (.tab wd m j) ∧ (if i = 0 then some wd else if i = 1 then some m else if i = 2 then some j else none) = some d := by
  have hv : (match valAt ρ k with | some (.tab w m j) => if i = 0 then some w else if i = 1 then some m else if i = 2 then some j else none | _ => none) = some d := hv
  cases hk : valAt ρ k with
  | none => rw [hk] at hv; cases hv
  | some X => rw [hk] at hv; cases X with
    | dat _ => cases hv
    | tab wd m j => exact ⟨wd, m, j, rfl, hv⟩
theorem meth_cases {ρ : Env0} {f k : Nat} {as : List ME} {d : PyData} (hv : evP Γ ρ (.meth f k as) = some d) : ∃ wd m j vs, valAt ρ k = some (.tab wd m j) ∧ evAs Γ ρ as = some vs ∧ Γ f (.tab wd m j :: vs) = some d := by
  have hv : (match valAt ρ k, evAs Γ ρ as with | some (.tab w m j), some vs => Γ f (.tab w m j :: vs) | _, _ => none) = some d := hv
  cases hk : valAt ρ k with
  | none => rw [hk] at hv; cases hv
  | some X => cases X with
    | dat _ => rw [hk] at hv; cases hv
    | tab wd m j => cases ha : evAs Γ ρ as with
      | none => rw [hk, ha] at hv; cases hv
      | some vs => rw [hk, ha] at hv; exact ⟨wd, m, j, vs, rfl, rfl, hv⟩
theorem call_cases {ρ : Env0} {f : Nat} {as : List ME} {d : PyData} (hv : evP Γ ρ (.call f as) = some d) : ∃ vs, evAs Γ ρ as = some vs ∧ Γ f vs = some d := by
  have hv : (match evAs Γ ρ as with | some vs => Γ f vs | none => none) = some d := hv
  cases ha : evAs Γ ρ as with
  | none => rw [ha] at hv; cases hv
  | some vs => rw [ha] at hv; exact ⟨vs, rfl, hv⟩
theorem attrIx_if {i : Nat} {x : Str} {wd m j d : PyData} (hi : attrName i = some x) (hv : (if i = 0 then some wd else if i = 1 then some m else if i = 2 then some j else none) = some d) : d = if i = 0 then wd else if i = 1 then m else j := by
  by_cases h0 : i = 0
  · rw [if_pos h0] at hv ⊢; cases hv; rfl
  rw [if_neg h0] at hv ⊢
  by_cases h1 : i = 1
  · rw [if_pos h1] at hv ⊢; cases hv; rfl
  rw [if_neg h1] at hv ⊢
  by_cases h2 : i = 2
  · rw [if_pos h2] at hv; cases hv; rfl
  · rw [if_neg h2] at hv; cases hv
theorem ev_inner {ρ : Env0} {a : ME} {d : PyData} {T : Type} {mk : T → PyData} {g : PyData → Option T} (hv : (match evP Γ ρ a with | some x => (g x).map mk | none => none) = some d) : ∃ x y, evP Γ ρ a = some x ∧ g x = some y ∧ d = mk y := by
  obtain ⟨x, hx, hv⟩ := ev_one (f := fun x => (g x).map mk) hv
  obtain ⟨y, h1, h2⟩ := map_some hv
  exact ⟨x, y, hx, h1, h2.symm⟩

theorem ev_sum {ρ : Env0} {m : ME} {d : PyData} (hv : evP Γ ρ (.sum m) = some d) : ∃ xs i, evP Γ ρ m = some (.list xs) ∧ sumInts xs = some i ∧ d = .int i := by
  have hv : (match evP Γ ρ m with | some (.list xs) => (sumInts xs).map .int | _ => none) = some d := hv
  cases hx : evP Γ ρ m with
  | none => rw [hx] at hv; cases hv
  | some x => rw [hx] at hv; cases x with
    | list xs => obtain ⟨i, h1, h2⟩ := map_some hv; exact ⟨xs, i, rfl, h1, h2.symm⟩
    | _ => cases hv
theorem ev_toInt {ρ : Env0} {m : ME} {d : PyData} (hv : evP Γ ρ (.toInt m) = some d) : ∃ i, evP Γ ρ m = some (.int i) ∧ d = .int i := by
  have hv : (match evP Γ ρ m with | some (.int i) => some (PyData.int i) | _ => none) = some d := hv
  cases hx : evP Γ ρ m with
  | none => rw [hx] at hv; cases hv
  | some x => rw [hx] at hv; cases x with
    | int i => cases hv; exact ⟨i, rfl, rfl⟩
    | _ => cases hv
theorem ev_neg {ρ : Env0} {m : ME} {d : PyData} (hv : evP Γ ρ (.neg m) = some d) : ∃ i, evP Γ ρ m = some (.int i) ∧ d = .int (-i) := by
  have hv : (match evP Γ ρ m with | some (.int i) => some (PyData.int (-i)) | _ => none) = some d := hv
  cases hx : evP Γ ρ m with
  | none => rw [hx] at hv; cases hv
  | some x => rw [hx] at hv; cases x with
    | int i => cases hv; exact ⟨i, rfl, rfl⟩
    | _ => cases hv
theorem ev_rev {ρ : Env0} {m : ME} {d : PyData} (hv : evP Γ ρ (.rev m) = some d) : ∃ xs, evP Γ ρ m = some (.list xs) ∧ d = .list xs.reverse := by
  have hv : (match evP Γ ρ m with | some (.list xs) => some (PyData.list xs.reverse) | _ => none) = some d := hv
  cases hx : evP Γ ρ m with
  | none => rw [hx] at hv; cases hv
  | some x => rw [hx] at hv; cases x with
    | list xs => cases hv; exact ⟨xs, rfl, rfl⟩
    | _ => cases hv
theorem ev_sumL {ρ : Env0} {m : ME} {d : PyData} (hv : evP Γ ρ (.sumL m) = some d) : ∃ xs ys, evP Γ ρ m = some (.list xs) ∧ sumLists xs = some ys ∧ ys.length ≤ 1000000 ∧ d = .list ys := by
  have hv : (match evP Γ ρ m with | some (.list xs) => (match sumLists xs with | some ys => if ys.length ≤ 1000000 then some (PyData.list ys) else none | none => none) | _ => none) = some d := hv
  cases hx : evP Γ ρ m with
  | none => rw [hx] at hv; cases hv
  | some x => rw [hx] at hv; cases x with
    | list xs =>
      have hv : (match sumLists xs with | some ys => if ys.length ≤ 1000000 then some (PyData.list ys) else none | none => none) = some d := hv
      cases hs : sumLists xs with
      | none => rw [hs] at hv; cases hv
      | some ys =>
        rw [hs] at hv
        by_cases hz : ys.length ≤ 1000000
        · exact ⟨xs, ys, rfl, hs, hz, (Option.some.inj ((if_pos hz).symm.trans hv)).symm⟩
        · cases (if_neg hz).symm.trans hv
    | _ => cases hv
theorem ev_sl {ρ : Env0} {a l u : ME} {d : PyData} (hv : evP Γ ρ (.sl a l u) = some d) : ∃ x y z, evP Γ ρ a = some x ∧ evP Γ ρ l = some y ∧ evP Γ ρ u = some z ∧ slD x y z = some d := by
  have hv : (match evP Γ ρ a, evP Γ ρ l, evP Γ ρ u with | some x, some l, some u => slD x l u | _, _, _ => none) = some d := hv
  cases hx : evP Γ ρ a with
  | none => rw [hx] at hv; cases hv
  | some x => cases hl : evP Γ ρ l with
    | none => rw [hx, hl] at hv; cases hv
    | some y => cases hu : evP Γ ρ u with
      | none => rw [hx, hl, hu] at hv; cases hv
      | some z => rw [hx, hl, hu] at hv; exact ⟨x, y, z, rfl, rfl, rfl, hv⟩
theorem ev_compS {ρ : Env0} {nx : Nat} {me src : ME} {ts : List ME} {d : PyData} (hv : evP Γ ρ (.comp nx me src ts) = some d) :
    ∃ x xs ys, evP Γ ρ src = some x ∧ items x = some xs ∧ compGo (fun d => evAnd Γ (ρ.set nx (some (.dat d))) ts) (fun d => evP Γ (ρ.set nx (some (.dat d))) me) xs = some ys ∧ d = .list ys := by
  have hv : (match evP Γ ρ src with | some x => (match items x with | some xs => (compGo (fun d => evAnd Γ (ρ.set nx (some (.dat d))) ts) (fun d => evP Γ (ρ.set nx (some (.dat d))) me) xs).map PyData.list | none => none) | none => none) = some d := hv
  cases hx : evP Γ ρ src with
  | none => rw [hx] at hv; cases hv
  | some x' =>
    rw [hx] at hv
    have hv : (match items x' with | some xs => (compGo (fun d => evAnd Γ (ρ.set nx (some (.dat d))) ts) (fun d => evP Γ (ρ.set nx (some (.dat d))) me) xs).map PyData.list | none => none) = some d := hv
    cases hxs : items x' with
    | none => rw [hxs] at hv; cases hv
    | some xs =>
      rw [hxs] at hv
      obtain ⟨ys, h4, h5⟩ := map_some hv
      exact ⟨x', xs, ys, rfl, hxs, h4, h5.symm⟩

section
variable {n nx : Nat} {cx : Cx} (IH : ∀ e me, cE S.gt n nx cx e = some me → SB S prog w L Γ cx e me)
include IH
/-- a built-in of one argument -/
theorem se_b1 {b : B1} {fp pos : Pos} {a : Expr} {me : ME} (hg : isGlob cx (Str.ofString b.nm) = true) (hm : cE S.gt n nx cx a = some me) : SE S prog w L Γ cx (.Call (.Name (Str.ofString b.nm) fp) [a] [] pos) (b.me me) := by
  intro ρ d env P s A hv c
  cases b with
  | len =>
    obtain ⟨x, hx, hv⟩ := ev_one hv
    exact r_bi1 IH c hg (id := "len") (by decide +kernel) hm hx (fun v s1 r => wpAny_lenD r hv)
  | sum =>
    obtain ⟨xs, i, hx, h3, h4⟩ := ev_sum hv
    subst h4
    exact r_bi1 IH c hg (id := "sum") (by decide +kernel) hm hx (fun v s1 r => wpAny_sumD c.m r h3)
  | list =>
    obtain ⟨x, y, hx, hy, h4⟩ := ev_inner (g := items) (mk := .list) hv
    subst h4
    exact r_ty1 IH c hg (id := "list") (by decide +kernel) hm hx (fun v s1 r => wpAny_toListD r hy)
  | tuple =>
    obtain ⟨x, y, hx, hy, h4⟩ := ev_inner (g := items) (mk := .tuple) hv
    subst h4
    exact r_ty1 IH c hg (id := "tuple") (by decide +kernel) hm hx (fun v s1 r => wpAny_toTupD r hy)
  | int =>
    obtain ⟨i, hx, h4⟩ := ev_toInt hv
    subst h4
    exact r_ty1 IH c hg (id := "int") (by decide +kernel) hm hx (fun v s1 r => wpAny_toIntD r)
theorem sb_b1 {f : Str} (q : IsB1 f) {fp pos : Pos} {a : Expr} {me : ME} (hg : isGlob cx f = true) (hm : cE S.gt n nx cx a = some me) : SB S prog w L Γ cx (.Call (.Name f fp) [a] [] pos) (q.b.me me) := by
  obtain ⟨b, rfl⟩ := q
  exact (se_b1 IH hg hm).b (by cases b <;> rfl)
theorem se_call (hΓ : GoodΓ S prog w L Γ) {f : Str} {k : Nat} {fp pos : Pos} {args : List Expr} {mes : List ME} (hg : isGlob cx f = true) (hf : S.gt.fn.lookup f = some k) (hm : mapO (cE S.gt n nx cx) args = some mes) : SE S prog w L Γ cx (.Call (.Name f fp) args [] pos) (.call k mes) := fun ρ d env P s A hv c => by
  obtain ⟨vs, hvs, hv⟩ := call_cases hv
  exact r_call hΓ IH c hg hf hm hvs hv
theorem se_sumL {f : Str} {fp pos lp : Pos} {a : Expr} {me : ME} (hg : isGlob cx f = true) (hf : f = Str.ofString "sum") (hm : cE S.gt n nx cx a = some me) : SE S prog w L Γ cx (.Call (.Name f fp) [a, .List [] lp] [] pos) (.sumL me) := fun ρ d env P s A hv c => by
  obtain ⟨xs, ys, hx, hs, hz, h4⟩ := ev_sumL hv
  subst h4
  exact r_sumL IH c hg hf hm hx hs hz
theorem sb_fun (hΓ : GoodΓ S prog w L Γ) {f : Str} {fp pos : Pos} {args : List Expr} {me : ME} (h : cFun S.gt cx (cE S.gt n nx cx) f args = some me) : SB S prog w L Γ cx (.Call (.Name f fp) args [] pos) me := by
  refine k_if h fun hg h => k_or h (fun h => k_bm h fun k ms h1 h2 => (se_call IH hΓ hg h1 h2).b rfl) fun h => k_or h (fun h => k_bbm h fun a b m _ _ h1 => ?_) fun h => k_bind h fun a _ h => k_bind h fun z _ h => k_if h fun hf h => k_map h fun m h1 => ?_
  · rw [a.h]
    exact sb_b1 IH b hg h1
  · rw [a.h, z.h]
    exact (se_sumL IH hg (beq_iff_eq.mp hf) h1).b rfl
theorem se_meth (hΓ : GoodΓ S prog w L Γ) {x n' : Str} {k m : Nat} {xp p pos : Pos} {args : List Expr} {mes : List ME} (hv : varIn cx x = some k) (hf : S.gt.meth.lookup n' = some m) (hm : mapO (cE S.gt n nx cx) args = some mes) (hl : (p.endLine == pos.line) = true) (hz : args.length < 30) :
    SE S prog w L Γ cx (.Call (.Attribute (.Name x xp) n' p) args [] pos) (.meth m k mes) := fun ρ d env P s A he c => by
  obtain ⟨hd, hs⟩ := varIn_spec hv
  obtain ⟨wd, m', j, vs, hval, hvs, he⟩ := meth_cases he
  exact r_meth hΓ IH c (ev_slot c.e c.r (slotOf_get hs) hval hd) hf hm hvs he hl hz
theorem sb_meth (hΓ : GoodΓ S prog w L Γ) {f : Expr} {pos : Pos} {args : List Expr} {me : ME} (h : cMeth S.gt cx (cE S.gt n nx cx) f args pos.line = some me) : SB S prog w L Γ cx (.Call f args [] pos) me := by
  refine k_bind h fun a _ h => k_bind h fun x _ h => k_if h fun hl h => k_bbm h fun k m as h1 h2 h3 => ?_
  rw [a.h, x.h]
  obtain ⟨hl, hz⟩ := Bool.and_eq_true_iff.mp hl
  exact (se_meth IH hΓ h1 h2 h3 hl (of_decide_eq_true hz)).b rfl
theorem se_list {es : List Expr} {ms : List ME} {p : Pos} (hl : es.length ≤ 1000) (h1 : mapO (cE S.gt n nx cx) es = some ms) : SE S prog w L Γ cx (.List es p) (.list ms) := fun ρ d env P s A hv c => by
  obtain ⟨ds, h3, h4⟩ := map_some hv
  subst h4
  exact r_list IH c hl h1 h3
theorem se_tup {es : List Expr} {ms : List ME} {j : Nat} {p : Pos} (hl : es.length ≤ 1000) (h1 : mapO (cE S.gt n nx cx) es = some ms) : SE S prog w L Γ cx (.Tuple es j p) (.tup ms) := fun ρ d env P s A hv c => by
  obtain ⟨ds, h3, h4⟩ := map_some hv
  subst h4
  exact r_tup IH c hl h1 h3
theorem se_and {e : Expr} {es : List Expr} {ms : List ME} {p : Pos} (h1 : mapO (cE S.gt n nx cx) (e :: es) = some ms) : SE S prog w L Γ cx (.BoolOp .And (e :: es) p) (.and ms) := fun ρ d env P s A hv c => by
  obtain ⟨b, h3, h4⟩ := map_some hv
  subst h4
  exact and_ok IH _ _ _ _ _ s h1 h3 c
theorem se_or {e : Expr} {es : List Expr} {ms : List ME} {p : Pos} (h1 : mapO (cE S.gt n nx cx) (e :: es) = some ms) : SE S prog w L Γ cx (.BoolOp .Or (e :: es) p) (.or ms) := fun ρ d env P s A hv c => by
  obtain ⟨b, h3, h4⟩ := map_some hv
  subst h4
  exact or_ok IH _ _ _ _ _ s h1 h3 c
end
section
variable {cx : Cx}
theorem se_bin {l r : Expr} {o : Operator} (q : IsOp o) {a b : ME} {p : Pos} (h1 : SE S prog w L Γ cx l a) (h2 : SE S prog w L Γ cx r b) : SE S prog w L Γ cx (.BinOp l o r p) (.bin q.b a b) := by
  obtain ⟨o, rfl⟩ := q
  intro ρ d env P s A hv c
  obtain ⟨x, y, hx, hy, hv⟩ := ev_two (f := binD o) hv
  exact r_bin (h1 ρ x env P s A hx c) (fun s' k => h2 ρ y env P s' A hy (c.keeps k)) hv
theorem se_neg {x : Expr} {a : ME} {p : Pos} (h : SE S prog w L Γ cx x a) : SE S prog w L Γ cx (.UnaryOp .USub x p) (.neg a) := fun ρ d env P s A hv c => by
  obtain ⟨i, hm, hd⟩ := ev_neg hv
  subst hd
  exact r_neg (h ρ _ env P s A hm c)
theorem se_slc {v i : Expr} (q : IsSlc i) {a l u : ME} {p : Pos} (h1 : SE S prog w L Γ cx v a) (h2 : SP S prog w L Γ cx q.lo l) (h3 : SP S prog w L Γ cx q.hi u) : SE S prog w L Γ cx (.Subscript v i p) (.sl a l u) := by
  obtain ⟨⟨lo, hi, sp⟩, rfl⟩ := q
  intro ρ d env P s A hv c
  obtain ⟨x, y, z, hx, hy, hz, hv⟩ := ev_sl hv
  exact r_sl (h1 ρ x env P s A hx c) (fun s' k => h2 ρ y env P s' A hy (c.keeps k)) (fun s' k => h3 ρ z env P s' A hz (c.keeps k)) hv
theorem se_rev {v i : Expr} (q : IsRev i) {a : ME} {p : Pos} (h1 : SE S prog w L Γ cx v a) : SE S prog w L Γ cx (.Subscript v i p) (.rev a) := by
  obtain ⟨⟨k, p1, p2, p3⟩, rfl⟩ := q
  intro ρ d env P s A hv c
  obtain ⟨xs, hx, hd⟩ := ev_rev hv
  subst hd
  exact r_rev (h1 ρ _ env P s A hx c) (fun s' k => r_neg (ev_int 1 _ _))
theorem se_idx {v i : Expr} {a b : ME} {p : Pos} (h1 : SE S prog w L Γ cx v a) (h2 : SE S prog w L Γ cx i b) : SE S prog w L Γ cx (.Subscript v i p) (.idx a b) := fun ρ d env P s A hv c => by
  obtain ⟨x, y, hx, hy, hv⟩ := ev_two (f := idxD) hv
  exact r_idx (h1 ρ x env P s A hx c) (fun s' k => h2 ρ y env P s' A hy (c.keeps k)) hv
theorem se_attr {x n : Str} {k : Nat} (q : IsAt n) {xp p : Pos} (h1 : varIn cx x = some k) : SE S prog w L Γ cx (.Attribute (.Name x xp) n p) (.attr q.i k) := fun ρ d env P s A hv c => by
  obtain ⟨hd, hs⟩ := varIn_spec h1
  obtain ⟨wd, m, j, hval, hv⟩ := attr_cases hv
  rw [attrIx_if q.h hv]
  exact r_attr (i := q.i) c (ev_slot c.e c.r (slotOf_get hs) hval hd) q.h
theorem sb_var {x : Str} {k : Nat} {p : Pos} (h1 : varIn cx x = some k) : SB S prog w L Γ cx (.Name x p) (.var k) := by
  obtain ⟨hd, hs⟩ := varIn_spec h1
  exact ⟨fun ρ d env P s A hv c => ev_slot c.e c.r (slotOf_get hs) (datAt_val hv) hd, fun ρ X env P s A hv c => ev_slot c.e c.r (slotOf_get hs) hv hd⟩
theorem se_lit {x : Str} {d : PyData} {p : Pos} (h1 : litIn S.gt cx x = some d) : SE S prog w L Γ cx (.Name x p) (.lit d) := fun ρ d' env P s A hv c => by
  obtain ⟨hg, h1⟩ := if_some h1
  obtain ⟨hk, hd⟩ := Bool.and_eq_true_iff.mp hg
  cases hv
  exact r_dat c (beq_iff_eq.mp hk) h1 (not_false' hd)
theorem sb_const {k : Const} {j : Nat} {p : Pos} {me : ME} (h : cConst k = some me) : SB S prog w L Γ cx (.Constant k j p) me := by
  cases k with
  | int i => cases h; exact SE.b (fun ρ d env P s A hv c => by cases hv; exact ev_int _ _ _) rfl
  | bool b => cases h; exact SE.b (fun ρ d env P s A hv c => by cases hv; exact ev_bool _ _ _) rfl
  | _ => cases h
end
theorem se_comp {n nx : Nat} (ih : Sound S prog w L Γ n) {cx : Cx} {elt : Expr} {gens : List Comprehension} {scope : Scope} (q : IsComp cx gens scope) {p : Pos} {src me : ME} {ts : List ME} (h1 : cSrc S.gt n nx cx q.iter = some src) (h2 : cE S.gt n (nx + 1) (compCx cx nx scope.names q.x) elt = some me)
    (h3 : mapO (cT S.gt n (nx + 1) (compCx cx nx scope.names q.x)) q.ifs = some ts) : SE S prog w L Γ cx (.ListComp elt gens scope p) (.comp nx me src ts) := by
  obtain ⟨⟨x, xp, iter, ifs⟩, rfl, hc1, hc2⟩ := q
  intro ρ d env P s A hv c
  obtain ⟨xv, xs, ys, hx, hxs, h4, hd⟩ := ev_compS hv
  subst hd
  exact r_comp (n := n) (fun cx' me h => (ih.e _ cx' _ me h).e) (fun cx' e me h => ih.t _ cx' e me h) c hc1 hc2 (ih.s _ _ _ _ h1 ρ xv xs env P s A hx hxs c) h2 h3 h4

theorem sound_e {n : Nat} (hΓ : GoodΓ S prog w L Γ) (ih : Sound S prog w L Γ n) : ∀ nx cx e me, cE S.gt (n + 1) nx cx e = some me → SB S prog w L Γ cx e me := by
  intro nx cx e me h
  have IH := fun e me h => ih.e nx cx e me h
  have IE := fun e me h => (IH e me h).e
  cases e with
  | Constant k _ _ => exact sb_const h
  | Name x p => exact k_or h (fun h => k_map h fun k h1 => sb_var h1) fun h => k_map h fun d h1 => (se_lit h1).b rfl
  | BinOp l op r _ => exact k_bbm h fun o a b _ h2 h3 => (se_bin o (IE _ _ h2) (IE _ _ h3)).b rfl
  | UnaryOp op x _ =>
    exact k_bm h fun q a _ h1 => by
      rw [q.down]
      exact (se_neg (IE _ _ h1)).b rfl
  | BoolOp op es _ =>
    cases op with
    | And => exact k_bm h fun q m1 _ h1 => by rw [q.h] at h1 ⊢; exact (se_and IH h1).b rfl
    | Or => exact k_bm h fun q m1 _ h1 => by rw [q.h] at h1 ⊢; exact (se_or IH h1).b rfl
  | IfExp t a b _ => exact k_bbm h fun mt ma mb h1 h2 h3 => (se_ite (ih.t _ _ _ _ h1) (IE _ _ h2) (IE _ _ h3)).b rfl
  | List es _ => exact k_if h fun hl h => k_map h fun m1 h1 => (se_list IH (of_decide_eq_true hl) h1).b rfl
  | Tuple es _ _ => exact k_if h fun hl h => k_map h fun m1 h1 => (se_tup IH (of_decide_eq_true hl) h1).b rfl
  | Compare l ops rs p =>
    exact k_cmp (G := fun o r me => SB S prog w L Γ cx (.Compare l o r p) me) h (fun c r a b hm h1 h2 => (se_cmp (IE _ _ h1) (IE _ _ h2) hm).b rfl) fun c1 c2 m r a b c hm h1 h2 h3 => (se_cmp2 (IE _ _ h1) (IE _ _ h2) (IE _ _ h3) hm).b rfl
  | Subscript v i _ =>
    exact k_or h (fun h => k_bbbm h fun q a l u _ h1 h2 h3 => (se_slc q (IE _ _ h1) (ih.p _ _ _ _ h2) (ih.p _ _ _ _ h3)).b rfl) fun h => k_or h (fun h => k_bm h fun q a _ h1 => (se_rev q (IE _ _ h1)).b rfl) fun h => k_bm h fun a b h1 h2 => (se_idx (IE _ _ h1) (IE _ _ h2)).b rfl
  | Attribute o name _ => exact k_bbm h fun x k q _ h1 _ => by rw [x.h]; exact (se_attr q h1).b rfl
  | Call f args kws pos =>
    exact k_bind h fun z _ h => by
      rw [z.down]
      exact k_or h (fun h => sb_meth IH hΓ h) fun h => k_bind h fun x _ h => by rw [x.h]; exact sb_fun IH hΓ h
  | ListComp elt gens scope _ => exact k_bbbm h fun q src me' ts _ h1 h2 h3 => (se_comp ih q h1 h2 h3).b rfl
  | _ => cases h

theorem sound (hΓ : GoodΓ S prog w L Γ) : ∀ n, Sound S prog w L Γ n
  | 0 => ⟨fun _ _ _ _ h => (by cases h), fun _ _ _ _ h => (by cases h), fun _ _ _ _ h => (by cases h), fun _ _ _ _ h => (by cases h)⟩
  | n + 1 => ⟨sound_e hΓ (sound hΓ n), sound_p (sound hΓ n), sound_s (sound hΓ n), sound_t (sound hΓ n)⟩
end
end Mine
end

section
open PySem PyProof.Rows PySem.W
set_option Elab.async false
set_option linter.unusedVariables false
set_option linter.unusedSimpArgs false
namespace Mine

/-- a list of the frame's own -/
noncomputable def OwnAt (s₀ : Shared) (F P : Addr → Prop) (h : Heap) (D : Addr) (xs : List PyData) : Prop :=
  ∃ vs n, h.get? D = some (lob vs n) ∧ ¬ P D ∧ s₀.heap.get? D = none ∧ ¬ F D ∧ vs.size ≤ 1000000 ∧ RdAll P h vs.toList xs ∧ flatAll xs = true

structure Inv (S : Sys) (L : Nat) (cx : Cx) (ow : Nat) (env : Env) (P₀ : Addr → Prop) (s₀ : Shared) (F : Addr → Prop) (hF : Heap) (A : Around) (ρ : Env0) (s : Shared) (P : Addr → Prop) (m : Str → Option Value) : Prop where
  e : EnvOk cx env
  k : Keeps s₀ s
  b : Base S s₀.heap
  r : Room L A
  nd : ∀ (k k' : Nat) (x : Str), cx.slots[k]? = some (some x) → cx.slots[k']? = some (some x) → k = k'
  lf : s₀.heap.get? env.locals = none
  cf : ∀ (n : Str) (c : Addr), env.cells.lookup n = some c → s₀.heap.get? c = none ∧ c ≠ env.locals
  ap : ∀ (n n' : Str) (c : Addr), env.cells.lookup n = some c → env.cells.lookup n' = some c → n = n'
  fa : ∀ a, F a → ∃ o, hF.get? a = some o
  fk : ∀ a o, F a → hF.get? a = some o → s.heap.get? a = some o
  fl : ¬ F env.locals
  fc : ∀ (n : Str) (c : Addr), env.cells.lookup n = some c → ¬ F c
  pu : ∀ a, P a → Up P₀ s₀ a
  pa : ∀ a, P a → ∃ o, s.heap.get? a = some o
  pl : ¬ P env.locals
  pc : ∀ (n : Str) (c : Addr), env.cells.lookup n = some c → ¬ P c
  ns : s.heap.Ns env.locals m
  ce : ∀ (n : Str) (c : Addr), env.cells.lookup n = some c → ∃ v, s.heap.IsCell c v
  sl : ∀ (k : Nat) (x : Str) (X : V), k ≠ ow → cx.slots[k]? = some (some x) → valAt ρ k = some X → ∃ v, Slot env s.heap m x v ∧ Rep S P s.heap v X
  so : ∀ (x : Str) (X : V), cx.slots[ow]? = some (some x) → valAt ρ ow = some X → ∃ D xs, X = .dat (.list xs) ∧ Slot env s.heap m x (.ref D) ∧ OwnAt s₀ F P s.heap D xs
  pin : ∀ (y : Str) (u : Value), (y, u) ∈ cx.pins → Slot env s.heap m y u ∧ ∀ k : Nat, cx.slots[k]? ≠ some (some y)

theorem ns_some {h : Heap} {a : Addr} {m : Str → Option Value} (x : h.Ns a m) : ∃ o, h.get? a = some o ∧ NotSeq o := by
  obtain ⟨o, es, ep, e, d, _⟩ := x
  exact ⟨o, e, notSeq_dict d⟩
theorem cell_some {h : Heap} {a : Addr} {v : Option Value} (x : h.IsCell a v) : ∃ o, h.get? a = some o ∧ NotSeq o := by
  obtain ⟨o, e, d⟩ := x
  exact ⟨o, e, notSeq_cell d⟩
theorem ns_cell {h : Heap} {a : Addr} {m : Str → Option Value} {v : Option Value} (x : h.Ns a m) (y : h.IsCell a v) : False := by
  obtain ⟨o, es, ep, e, d, _⟩ := x
  obtain ⟨o', e', d'⟩ := y
  rw [e] at e'; cases e'; rw [d] at d'; cases d'

section
variable {S : Sys} {L : Nat} {cx : Cx} {ow : Nat} {env : Env} {P₀ F P : Addr → Prop} {s₀ s : Shared} {hF : Heap} {A : Around} {ρ : Env0} {m : Str → Option Value}

theorem Inv.bs (I : Inv S L cx ow env P₀ s₀ F hF A ρ s P m) : Base S s.heap := I.b.keeps (keeps_le I.k)

noncomputable def Cx.mask (cx : Cx) (ow : Nat) : Cx := { cx with slots := cx.slots.set ow none }

theorem Inv.ctxM (I : Inv S L cx ow env P₀ s₀ F hF A ρ s P m) : Ctx0 S L (cx.mask ow) env ρ P s A := by
  refine ⟨⟨I.e.kind, I.e.names, I.e.globals, I.e.builtins, I.e.cells⟩, ⟨m, I.ns, fun k x X e1 e2 => ?_⟩, I.bs, I.r⟩
  unfold Cx.mask at e1
  by_cases hk : ow = k
  · subst hk
    rw [List.getElem?_set] at e1
    simp only [if_true] at e1
    split at e1 <;> cases e1
  · exact I.sl k x X (Ne.symm hk) (by simpa only [List.getElem?_set_ne hk] using e1) e2

/-- the own list's address -/
noncomputable def IsOwn (cx : Cx) (ow : Nat) (env : Env) (s₀ : Shared) (F P : Addr → Prop) (ρ : Env0) (h : Heap) (m : Str → Option Value) (D : Addr) : Prop :=
  ∃ x xs, cx.slots[ow]? = some (some x) ∧ valAt ρ ow = some (.dat (.list xs)) ∧ Slot env h m x (.ref D) ∧ OwnAt s₀ F P h D xs

theorem Inv.ctxF (I : Inv S L cx ow env P₀ s₀ F hF A ρ s P m) : Ctx0 S L cx env ρ (fun a => P a ∨ IsOwn cx ow env s₀ F P ρ s.heap m a) s A := by
  refine ⟨I.e, ⟨m, I.ns, fun k x X e1 e2 => ?_⟩, I.bs, I.r⟩
  by_cases hk : k = ow
  · subst hk
    obtain ⟨D, xs, e3, hs, vs, n, h1, h2, h3, h4, h5, h6, h7⟩ := I.so x X e1 e2
    subst e3
    refine ⟨_, hs, .list (.inr ⟨x, xs, e1, e2, hs, vs, n, h1, h2, h3, h4, h5, h6, h7⟩) h1 h5 (h6.mono (fun a _ _ p => .inl p) (.of_le (Le.refl _)))⟩
  · obtain ⟨v, hv, hr⟩ := I.sl k x X hk e1 e2
    exact ⟨v, hv, hr.mono (fun a _ _ p => .inl p) (.of_le (Le.refl _))⟩

theorem Inv.pF (I : Inv S L cx ow env P₀ s₀ F hF A ρ s P m) : ∀ a, (P a ∨ IsOwn cx ow env s₀ F P ρ s.heap m a) → Up P₀ s₀ a := fun a h => by
  rcases h with h | ⟨x, xs, e1, e2, hs, vs, n, h1, h2, h3, _⟩
  · exact I.pu a h
  · exact .inr h3

/-- P, and what came since -/
noncomputable def Nxt (P : Addr → Prop) (s s1 : Shared) : Addr → Prop := fun a => Up P s a ∧ ∃ o, s1.heap.get? a = some o

theorem Inv.step {s1 : Shared} (I : Inv S L cx ow env P₀ s₀ F hF A ρ s P m) (k1 : Keeps s s1) : Inv S L cx ow env P₀ s₀ F hF A ρ s1 (Nxt P s s1) m := by
  have hle := keeps_le k1
  have nf : ∀ a o, s.heap.get? a = some o → ¬ P a → ¬ Nxt P s s1 a := fun a o e hp h => by
    rcases h.1 with h | h
    · exact hp h
    · rw [e] at h; cases h
  have mP : ∀ {v X}, Rep S P s.heap v X → Rep S (Nxt P s s1) s1.heap v X := fun r => r.mono (fun a o e p => ⟨.inl p, o, hle _ _ e⟩) (.of_le hle)
  refine ⟨I.e, keeps_trans I.k k1, I.b, I.r, I.nd, I.lf, I.cf, I.ap, I.fa, fun a o h e => hle _ _ (I.fk a o h e), I.fl, I.fc, fun a h => ?_, fun a h => h.2, ?_, fun n c h => ?_, I.ns.keeps hle, fun n c h => ?_, fun k x X hk e1 e2 => ?_, fun x X e1 e2 => ?_, fun y u hy => ⟨(I.pin y u hy).1.keeps hle, (I.pin y u hy).2⟩⟩
  · rcases h.1 with h | h
    · exact I.pu a h
    · right
      cases e : s₀.heap.get? a with
      | none => rfl
      | some o => rw [keeps_le I.k _ _ e] at h; cases h
  · obtain ⟨o, e, _⟩ := ns_some I.ns
    exact nf _ o e I.pl
  · obtain ⟨v, hv⟩ := I.ce n c h
    obtain ⟨o, e, _⟩ := cell_some hv
    exact nf _ o e (I.pc n c h)
  · obtain ⟨v, hv⟩ := I.ce n c h
    exact ⟨v, hv.keeps hle⟩
  · obtain ⟨v, hv, hr⟩ := I.sl k x X hk e1 e2
    exact ⟨v, hv.keeps hle, mP hr⟩
  · obtain ⟨D, xs, e3, hs, vs, n, h1, h2, h3, h4, h5, h6, h7⟩ := I.so x X e1 e2
    exact ⟨D, xs, e3, hs.keeps hle, vs, n, hle _ _ h1, nf _ _ h1 h2, h3, h4, h5, h6.mono (fun a o e p => ⟨.inl p, o, hle _ _ e⟩) (.of_le hle), h7⟩

theorem valAt_set_ne {k k' : Nat} {X : Option V} (h : k ≠ k') : valAt (ρ.set k X) k' = valAt ρ k' := by
  unfold valAt; rw [List.getElem?_set_ne h]
theorem valAt_set {k : Nat} {X Y : V} (h : valAt (ρ.set k (some X)) k = some Y) : X = Y := by
  unfold valAt at h
  rw [List.getElem?_set] at h
  simp only [if_true] at h
  split at h
  · rename_i e
    split at e
    · cases e; cases h; rfl
    · cases e
  · cases h

/-- a heap that differs in the locals alone, or in a cell -/
theorem Inv.moved {h' : Heap} {tk : Nat} {z : Addr} {k : Nat} {x : Str} {v : Value} {X : V} {m' : Str → Option Value}
    (I : Inv S L cx ow env P₀ s₀ F hF A ρ s P m) (hs : Heap.SameBut z s.heap h') (hz0 : s₀.heap.get? z = none) (hzF : ¬ F z) (hzP : ¬ P z) (hzn : ∃ o, s.heap.get? z = some o ∧ NotSeq o)
    (hns : h'.Ns env.locals m') (hce : ∀ n c, env.cells.lookup n = some c → ∃ v, h'.IsCell c v)
    (hx : cx.slots[k]? = some (some x)) (hold : ∀ y u, y ≠ x → Slot env s.heap m y u → Slot env h' m' y u) (hnew : Slot env h' m' x v)
    (hX : if k = ow then ∃ D xs, X = .dat (.list xs) ∧ v = .ref D ∧ OwnAt s₀ F P s.heap D xs else Rep S P s.heap v X) :
    Inv S L cx ow env P₀ s₀ F hF A (ρ.set k (some X)) { s with heap := h', toks := tk } P m' := by
  obtain ⟨oz, ez, nz⟩ := hzn
  have same : ∀ a o, a ≠ z → s.heap.get? a = some o → h'.get? a = some o := fun a o hne e => hs.extBut a o hne e
  have sameP : Same P s.heap h' := fun a o e h => same a o (fun q => by
    subst q
    rcases h with h | ⟨vs, n, h⟩
    · exact hzP h
    · rw [e] at ez; cases ez; exact nz.2 _ _ h) e
  have mP : ∀ {v X}, Rep S P s.heap v X → Rep S P h' v X := fun r => r.mono (fun _ _ _ p => p) sameP
  have mO : ∀ {D xs}, OwnAt s₀ F P s.heap D xs → OwnAt s₀ F P h' D xs := fun ⟨vs, n, h1, h2, h3, h4, h5, h6, h7⟩ =>
    ⟨vs, n, same _ _ (fun q => by rw [q, ez] at h1; cases h1; exact nz.1 _ _ rfl) h1, h2, h3, h4, h5, h6.mono (fun _ _ _ p => p) sameP, h7⟩
  refine ⟨I.e, ?_, I.b, I.r, I.nd, I.lf, I.cf, I.ap, I.fa, fun a o h e => same a o (fun q => hzF (q ▸ h)) (I.fk a o h e), I.fl, I.fc, I.pu, fun a h => ?_, I.pl, I.pc, hns, hce, fun k' y Y hk e1 e2 => ?_, fun y Y e1 e2 => ?_, fun y u hy => ⟨hold y u (fun q => (I.pin y u hy).2 k (q ▸ hx)) (I.pin y u hy).1, (I.pin y u hy).2⟩⟩
  · obtain ⟨h1, t1, rfl, k1⟩ := I.k
    exact ⟨h', tk, rfl, fun a o e => same a o (fun q => by rw [q, hz0] at e; cases e) (k1 a o e)⟩
  · obtain ⟨o, e⟩ := I.pa a h
    exact ⟨o, same a o (fun q => hzP (q ▸ h)) e⟩
  · by_cases hkk : k = k'
    · subst hkk
      have : X = Y := valAt_set e2
      subst this
      rw [hx] at e1; cases e1
      rw [if_neg hk] at hX
      exact ⟨v, hnew, mP hX⟩
    · rw [valAt_set_ne hkk] at e2
      obtain ⟨u, hu, hr⟩ := I.sl k' y Y hk e1 e2
      exact ⟨u, hold y u (fun q => hkk (I.nd k k' x hx (q ▸ e1))) hu, mP hr⟩
  · by_cases hkk : k = ow
    · subst hkk
      have : X = Y := valAt_set e2
      subst this
      rw [hx] at e1; cases e1
      rw [if_pos rfl] at hX
      obtain ⟨D, xs, e3, e4, h⟩ := hX
      subst e4
      exact ⟨D, xs, e3, hnew, mO h⟩
    · rw [valAt_set_ne hkk] at e2
      obtain ⟨D, xs, e3, hsl, h⟩ := I.so y Y e1 e2
      exact ⟨D, xs, e3, hold y _ (fun q => hkk (I.nd k ow x hx (q ▸ e1))) hsl, mO h⟩

/-- a name of the frame's is bound anew -/
theorem Inv.store {prog : Program} {w : World} {E : Value → Shared → Prop} {k : Nat} {x : Str} {v : Value} {X : V} {Q : Unit → Shared → Prop}
    (I : Inv S L cx ow env P₀ s₀ F hF A ρ s P m) (hx : cx.slots[k]? = some (some x)) (hk : cx.names.lookup x = some .local ∨ cx.names.lookup x = some .cell)
    (hX : if k = ow then ∃ D xs, X = .dat (.list xs) ∧ v = .ref D ∧ OwnAt s₀ F P s.heap D xs else Rep S P s.heap v X)
    (hQ : ∀ s' m', Inv S L cx ow env P₀ s₀ F hF A (ρ.set k (some X)) s' P m' → (∃ z, Heap.SameBut z s.heap s'.heap ∧ (z = env.locals ∨ ∃ n, env.cells.lookup n = some z)) → Q () s') : wpAny (model prog w) A (storeName env x v) Q E s := by
  have hko : ∀ y, env.kindOf y = cx.names.lookup y := kindOf_eq I.e
  rcases hk with hk | hk
  · refine wpAny_storeName_local ((hko x).trans hk) I.ns (fun h' hns' hs' => hQ _ (fun y => if y = x then some v else m y) (I.moved hs' I.lf I.fl I.pl (ns_some I.ns) hns' (fun n c h => ?_) hx (fun y u hy hu => ?_) (.inl ⟨(hko x).trans hk, by simp⟩) hX) ⟨_, hs', .inl rfl⟩) (by rw [I.e.kind]; rfl)
    · obtain ⟨u, hu⟩ := I.ce n c h
      exact ⟨u, hu.sameBut hs' (I.cf n c h).2⟩
    · rcases hu with ⟨h1, h2⟩ | ⟨h1, c, h2, h3⟩
      · exact .inl ⟨h1, by show (if y = x then some v else m y) = some u; rw [if_neg hy]; exact h2⟩
      · exact .inr ⟨h1, c, h2, h3.sameBut hs' (I.cf y c h2).2⟩
  · obtain ⟨c, hc⟩ := Option.isSome_iff_exists.mp (I.e.cells x hk)
    obtain ⟨v₀, hv₀⟩ := I.ce x c hc
    refine wpAny_storeName_cell I.e.kind ((hko x).trans hk) hc hv₀ fun h' hc' hs' => hQ _ m (I.moved (m' := m) hs' (I.cf x c hc).1 (I.fc x c hc) (I.pc x c hc) (cell_some hv₀) (I.ns.sameBut hs' (Ne.symm (I.cf x c hc).2)) (fun n c2 h => ?_) hx (fun y u hy hu => ?_) (.inr ⟨(hko x).trans hk, c, hc, hc'⟩) hX) ⟨_, hs', .inr ⟨x, hc⟩⟩
    · by_cases hcc : c2 = c
      · subst hcc; exact ⟨_, hc'⟩
      · obtain ⟨u, hu⟩ := I.ce n c2 h
        exact ⟨u, hu.sameBut hs' hcc⟩
    · rcases hu with ⟨h1, h2⟩ | ⟨h1, c2, h2, h3⟩
      · exact .inl ⟨h1, h2⟩
      · refine .inr ⟨h1, c2, h2, h3.sameBut hs' fun q => hy (I.ap y x c2 h2 (q ▸ hc))⟩

/-- the own list grows or is set -/
theorem Inv.own {h' : Heap} {tk : Nat} {D : Addr} {vs' : Array Value} {n' : Nat} {xs xs' : List PyData} {x : Str}
    (I : Inv S L cx ow env P₀ s₀ F hF A ρ s P m) (hx : cx.slots[ow]? = some (some x)) (hv : valAt ρ ow = some (.dat (.list xs))) (hsl : Slot env s.heap m x (.ref D)) (ho : OwnAt s₀ F P s.heap D xs)
    (hs : Heap.SameBut D s.heap h') (hD : h'.get? D = some (lob vs' n')) (hz : vs'.size ≤ 1000000) (hr : RdAll P s.heap vs'.toList xs') (hfl : flatAll xs' = true) :
    Inv S L cx ow env P₀ s₀ F hF A (ρ.set ow (some (.dat (.list xs')))) { s with heap := h', toks := tk } P m := by
  obtain ⟨vs, n, h1, h2, h3, h4, h5, h6, h7⟩ := ho
  have same : ∀ a o, a ≠ D → s.heap.get? a = some o → h'.get? a = some o := fun a o hne e => hs.extBut a o hne e
  have sameP : Same P s.heap h' := fun a o e h => same a o (fun q => by
    subst q
    rcases h with h | ⟨us, j, h⟩
    · exact h2 h
    · rw [e] at h1; cases h1; simp at h) e
  have hDn : ∀ o, s.heap.get? D = some o → ¬ NotSeq o := fun o e q => by rw [h1] at e; cases e; exact q.1 _ _ rfl
  have mP : ∀ {v X}, Rep S P s.heap v X → Rep S P h' v X := fun r => r.mono (fun _ _ _ p => p) sameP
  have hDl : env.locals ≠ D := fun q => by obtain ⟨o, e, ne⟩ := ns_some I.ns; exact hDn o (q ▸ e) ne
  have hDc : ∀ n c, env.cells.lookup n = some c → c ≠ D := fun n c h q => by obtain ⟨u, hu⟩ := I.ce n c h; obtain ⟨o, e, ne⟩ := cell_some hu; exact hDn o (q ▸ e) ne
  have mS : ∀ {y u}, Slot env s.heap m y u → Slot env h' m y u := fun hu => by
    rcases hu with ⟨h1, h2⟩ | ⟨h1, c, h2, h3⟩
    · exact .inl ⟨h1, h2⟩
    · exact .inr ⟨h1, c, h2, h3.sameBut hs (hDc _ c h2)⟩
  refine ⟨I.e, ?_, I.b, I.r, I.nd, I.lf, I.cf, I.ap, I.fa, fun a o h e => same a o (fun q => h4 (q ▸ h)) (I.fk a o h e), I.fl, I.fc, I.pu, fun a h => ?_, I.pl, I.pc, I.ns.sameBut hs hDl, fun n c h => ?_, fun k' y Y hk e1 e2 => ?_, fun y Y e1 e2 => ?_, fun y u hy => ⟨mS (I.pin y u hy).1, (I.pin y u hy).2⟩⟩
  · obtain ⟨h1, t1, rfl, k1⟩ := I.k
    exact ⟨h', tk, rfl, fun a o e => same a o (fun q => by rw [q, h3] at e; cases e) (k1 a o e)⟩
  · obtain ⟨o, e⟩ := I.pa a h
    exact ⟨o, same a o (fun q => h2 (q ▸ h)) e⟩
  · obtain ⟨u, hu⟩ := I.ce n c h
    exact ⟨u, hu.sameBut hs (hDc n c h)⟩
  · rw [valAt_set_ne (Ne.symm hk)] at e2
    obtain ⟨u, hu, hr⟩ := I.sl k' y Y hk e1 e2
    exact ⟨u, mS hu, mP hr⟩
  · have : V.dat (.list xs') = Y := valAt_set e2
    subst this
    rw [hx] at e1; cases e1
    exact ⟨D, xs', rfl, mS hsl, vs', n', hD, h2, h3, h4, hz, hr.mono (fun _ _ _ p => p) sameP, hfl⟩
end
end Mine
end

section
open PySem PyProof.Rows PySem.W
set_option Elab.async false
set_option linter.unusedVariables false
set_option linter.unusedSimpArgs false
namespace Mine
section
variable {prog : Program} {w : World} {A : Around} {E : Value → Shared → Prop} {s : Shared}

theorem mapSeq_lob (its : Array Value) (n : Nat) (f : Array Value → Array Value) : Obj.mapSeq f (lob its n) = lob (f its) (if (f its).size == its.size then n else n + 1) := rfl

theorem setItem_neg {l : Addr} {items : Array Value} {n : Nat} {k : Int} {t : Tok} {v : Value} {Q : Unit → Shared → Prop} (hl : s.heap.get? l = some (lob items n))
    (h0 : k < 0) (h1 : -(items.size : Int) ≤ k) (hfit : -(2 ^ 63) ≤ k)
    (hQ : ∀ h', h'.get? l = some (lob (items.setIfInBounds (k + items.size).toNat v) n) → Heap.SameBut l s.heap h' → Q () { s with heap := h' }) :
    wpAny (model prog w) A (setItem (.ref l) (.int k t) v) Q E s := by
  have il := isList_of hl
  unfold setItem
  try with_reducible refine wpAny_holding ?_
  first | refine wpAny_bind (wpAny_pure ?_) | skip
  refine wpAny_bind (wpAny_sequenceKey il.typeIs (by decide) ?_)
  refine wpAny_bind (wpAny_callSpecial?_slot (name := Str.ofString "__setitem__") il.typeIs slot_list_setitem
    (wpAny_call_entry slot_list_setitem il.typeIs entry_list_setitem ?_ (args_list_setitem _ _ _)))
  show wpAny _ _ (Builtin.List.listSubscript? (.int k t) >>= _) _ _ s
  refine wpAny_bind (wpAny_listSubscript_int (fitsIndex_neg h0 hfit) ?_)
  clear hfit
  have hidx := seqIndex_neg h0 h1
  obtain ⟨y, hx⟩ : ∃ y, items[(k + items.size).toNat]? = some y := ⟨_, Array.getElem?_eq_getElem (show (k + items.size).toNat < items.size by omega)⟩
  generalize hj : (k + items.size).toNat = j at hx hidx hQ
  obtain ⟨i, rfl⟩ : ∃ j : Nat, k = Int.negSucc j := by
    cases k with
    | ofNat n => exact absurd h0 (Int.not_lt.mpr (Int.natCast_nonneg n))
    | negSucc n => exact ⟨n, rfl⟩
  show wpAny _ _ ((Builtin.List.listItems (.ref l) >>= fun xs => pure ((seqIndex? (Int.negSucc i) xs.size).bind fun i => xs[i]?.map (i, ·))) >>= _) _ _ s
  refine wpAny_bind (wpAny_bind ?_)
  show wpAny _ _ (seqItems? (.ref l) >>= _) _ _ s
  refine wpAny_bind (wpAny_seqItems hl rfl (wpAny_pure (wpAny_pure ?_)))
  rw [hidx]
  simp only [Option.bind_some, hx, Option.map_some]
  show wpAny _ _ (setSeqItemAt l j v >>= _) _ _ s
  have hfin : (s.heap.update l (Obj.mapSeq (·.setIfInBounds j v))).get? l = some (lob (items.setIfInBounds j v) n) := by
    rw [Heap.get?_update_self _ hl (by rw [mapSeq_lob]; rfl), mapSeq_lob]
    simp
  refine wpAny_bind (wpAny_setSeqItemAt hl rfl ?_)
  first
    | exact wpAny_bind (wpAny_pure (wpAny_pure ⟨.none, rfl, wpAny_pure (hQ _ hfin (Heap.SameBut.update ..))⟩))
    | exact wpAny_pure ⟨.none, rfl, wpAny_pure (hQ _ hfin (Heap.SameBut.update ..))⟩

theorem setItem_pos {l : Addr} {items : Array Value} {n : Nat} {k : Int} {t : Tok} {v : Value} {Q : Unit → Shared → Prop} (hl : s.heap.get? l = some (lob items n))
    (h0 : 0 ≤ k) (hfit : k < 2 ^ 63) (hn : k < items.size)
    (hQ : ∀ h', h'.get? l = some (lob (items.setIfInBounds k.toNat v) n) → Heap.SameBut l s.heap h' → Q () { s with heap := h' }) :
    wpAny (model prog w) A (setItem (.ref l) (.int k t) v) Q E s := by
  have il := isList_of hl
  unfold setItem
  try with_reducible refine wpAny_holding ?_
  first | refine wpAny_bind (wpAny_pure ?_) | skip
  refine wpAny_bind (wpAny_sequenceKey il.typeIs (by decide) ?_)
  refine wpAny_bind (wpAny_callSpecial?_slot (name := Str.ofString "__setitem__") il.typeIs slot_list_setitem
    (wpAny_call_entry slot_list_setitem il.typeIs entry_list_setitem ?_ (args_list_setitem _ _ _)))
  show wpAny _ _ (Builtin.List.listSubscript? (.int k t) >>= _) _ _ s
  refine wpAny_bind (wpAny_listSubscript_int (fitsIndex_of h0 hfit) ?_)
  clear hfit
  obtain ⟨j, rfl⟩ := Int.eq_ofNat_of_zero_le h0
  have hj : j < items.size := by omega
  have hx' : items[j]? = some items[j] := Array.getElem?_eq_getElem hj
  show wpAny _ _ ((seqItemAt l j >>= fun r => pure (r.map (j, ·))) >>= _) _ _ s
  refine wpAny_bind (wpAny_bind (wpAny_seqItemAt hl rfl (wpAny_pure ?_)))
  rw [hx']
  show wpAny _ _ (setSeqItemAt l j v >>= _) _ _ s
  have hfin : (s.heap.update l (Obj.mapSeq (·.setIfInBounds j v))).get? l = some (lob (items.setIfInBounds j v) n) := by
    rw [Heap.get?_update_self _ hl (by rw [mapSeq_lob]; rfl), mapSeq_lob]
    simp
  refine wpAny_bind (wpAny_setSeqItemAt hl rfl ?_)
  first
    | exact wpAny_bind (wpAny_pure (wpAny_pure ⟨.none, rfl, wpAny_pure (hQ _ hfin (Heap.SameBut.update ..))⟩))
    | exact wpAny_pure ⟨.none, rfl, wpAny_pure (hQ _ hfin (Heap.SameBut.update ..))⟩

/-- an item is put behind -/
theorem call_append {l : Addr} {items : Array Value} {n : Nat} {x : Value} {Q : Value → Shared → Prop} (hl : s.heap.get? l = some (lob items n)) (hsz : items.size ≤ sizeLine)
    (hQ : ∀ h' n', h'.get? l = some (lob (items.push x) n') → Heap.SameBut l s.heap h' → Q .none { s with heap := h' }) : wpAny (model prog w) A (call (.builtin "list.append") [.ref l, x]) Q E s :=
  wpAny_list_append_plain (hsz := hsz) ⟨n, hl⟩ fun h' ⟨n', e⟩ hs => hQ h' n' e hs

theorem call_extend_list {l b : Addr} {items items2 : Array Value} {n n2 : Nat} {Q : Value → Shared → Prop} (hl : s.heap.get? l = some (lob items n)) (hb : s.heap.get? b = some (lob items2 n2)) (hsz : items.size + items2.size ≤ sizeLine)
    (hQ : ∀ h' n', h'.get? l = some (lob (items ++ items2) n') → Heap.SameBut l s.heap h' → Q .none { s with heap := h' }) : wpAny (model prog w) A (call (.builtin "list.extend") [.ref l, .ref b]) Q E s := by
  refine call_meets PySem.F.slot_list_extend ⟨_, hl, rfl⟩ PySem.F.entry_list_extend (PySem.F.args_list_extend_2 _ _) (AutoSeq1.list_extend_list_list_0 l items n b items2 n2 (extend_door hsz) (Nat.le_trans (Nat.le_add_right _ _) hsz)) ⟨hl, hb, ?_⟩
  refine hQ _ (if (items ++ items2).size == items.size then n else n + 1) ?_ (Heap.SameBut.update ..)
  · rw [Heap.get?_update_self _ hl (by rw [mapSeq_lob]; rfl), mapSeq_lob]
theorem call_extend_tup {l b : Addr} {items items2 : Array Value} {n n2 : Nat} {Q : Value → Shared → Prop} (hl : s.heap.get? l = some (lob items n)) (hb : s.heap.get? b = some (tob items2 n2)) (hsz : items.size + items2.size ≤ sizeLine)
    (hQ : ∀ h' n', h'.get? l = some (lob (items ++ items2) n') → Heap.SameBut l s.heap h' → Q .none { s with heap := h' }) : wpAny (model prog w) A (call (.builtin "list.extend") [.ref l, .ref b]) Q E s := by
  refine call_meets PySem.F.slot_list_extend ⟨_, hl, rfl⟩ PySem.F.entry_list_extend (PySem.F.args_list_extend_2 _ _) (AutoSeq1.list_extend_list_tuple_0 l items n b items2 n2 (extend_door hsz) (Nat.le_trans (Nat.le_add_right _ _) hsz)) ⟨hl, hb, ?_⟩
  refine hQ _ (if (items ++ items2).size == items.size then n else n + 1) ?_ (Heap.SameBut.update ..)
  · rw [Heap.get?_update_self _ hl (by rw [mapSeq_lob]; rfl), mapSeq_lob]

theorem meth_append {l : Addr} {items : Array Value} {n : Nat} {pl : Sem Bool} {Q : Value × List Value → Shared → Prop} (hl : s.heap.get? l = some (lob items n)) (h : Q (.builtin "list.append", [.ref l]) s) :
    wpAny (model prog w) A (getMethod (.ref l) (Str.ofString "append") pl) Q E s := Calls.getMethod_list_append hl rfl rfl h
theorem meth_extend {l : Addr} {items : Array Value} {n : Nat} {pl : Sem Bool} {Q : Value × List Value → Shared → Prop} (hl : s.heap.get? l = some (lob items n)) (h : Q (.builtin "list.extend", [.ref l]) s) :
    wpAny (model prog w) A (getMethod (.ref l) (Str.ofString "extend") pl) Q E s :=
  getMethod_builtin (isList_of hl).typeIs PySem.F.plainAttrs_list PySem.F.slot_list_extend PySem.F.type_list_extend (fun a e => by cases e; exact ⟨_, hl, rfl⟩) h
end
end Mine
end

section
open PySem PyProof.Rows PySem.W
set_option Elab.async false
set_option linter.unusedVariables false
set_option linter.unusedSimpArgs false
namespace Mine

inductive MS where
  | asg (k : Nat) (e : ME)
  | unp (sw : Bool) (ks : List Nat) (e : ME)
  | own
  | own2 (k : Nat) (e : ME)
  | aug (k : Nat) (op : BO) (e : ME)
  | ret (e : ME)
  | ite (t : ME) (a b : List MS)
  | for1 (k : Nat) (src : ME) (body : List MS)
  | whl (t : ME) (body : List MS)
  | push (e : ME)
  | ext (e : ME)
  | setL (e : ME)
  | err
  | drop (e : ME)
  | forE (kp kf kl : Nat) (src : ME) (body : List MS)
  | forZ (k1 k2 : Nat) (a b : ME) (body : List MS)

mutual
/-- tuples that hold no list -/
noncomputable def okT : PyData → Bool
  | .none | .bool _ | .int _ => true
  | .tuple xs => flatAll xs
  | .list xs => okTs xs
  | .str _ | .dict _ => false
noncomputable def okTs : List PyData → Bool
  | [] => true
  | x :: xs => okT x && okTs xs
end
noncomputable def okV : V → Bool
  | .dat d => okT d
  | .tab w m j => okT w && okT m && okT j
noncomputable def okEnv (ρ : Env0) : Bool := ρ.all fun o => match o with | some v => okV v | none => true

inductive Out where
  | nxt (ρ : Env0)
  | ret (d : PyData)

noncomputable def forGo (body : PyData → Env0 → Option Out) : List PyData → Env0 → Option Out
  | [], ρ => some (.nxt ρ)
  | d :: r, ρ => match body d ρ with
    | some (.nxt ρ') => forGo body r ρ'
    | some (.ret d) => some (.ret d)
    | none => none
noncomputable def whlGo (test : Env0 → Option Bool) (body : Env0 → Option Out) : Nat → Env0 → Option Out
  | 0, _ => none
  | n + 1, ρ => match test ρ with
    | some true => (match body ρ with
      | some (.nxt ρ') => whlGo test body n ρ'
      | some (.ret d) => some (.ret d)
      | none => none)
    | some false => some (.nxt ρ)
    | none => none
noncomputable def forGoT (body : List PyData → Env0 → Option Out) : List (List PyData) → Env0 → Option Out
  | [], ρ => if okEnv ρ then some (.nxt ρ) else none
  | ds :: r, ρ => if okEnv ρ then (match body ds ρ with
    | some (.nxt ρ') => forGoT body r ρ'
    | some (.ret d) => some (.ret d)
    | none => none) else none
noncomputable def setAll : Env0 → List Nat → List PyData → Env0
  | ρ, k :: ks, d :: ds => setAll (ρ.set k (some (.dat d))) ks ds
  | ρ, _, _ => ρ
noncomputable def enumE : Nat → List PyData → List (List PyData)
  | _, [] => []
  | i, x :: r => [.int (i : Int), x] :: enumE (i + 1) r
noncomputable def bdE (kp kf kl : Nat) (ρ : Env0) : List PyData → Env0
  | [i, .tuple [a, b]] => setAll ρ [kp, kf, kl] [i, a, b]
  | _ => ρ
noncomputable def isPairD : PyData → Bool
  | .tuple [_, _] => true
  | _ => false
noncomputable def isListD : PyData → Bool
  | .list _ => true
  | _ => false
noncomputable def ownXs (ρ : Env0) (ow : Nat) : Option (List PyData) := match datAt ρ ow with
  | some (.list xs) => some xs
  | _ => none
noncomputable def augD : BO → PyData → PyData → Option PyData
  | .add, .int a, .int b => some (.int (a + b))
  | .sub, .int a, .int b => some (.int (a - b))
  | _, _, _ => none

mutual
noncomputable def rS (Γ : Ctab) (ow : Nat) : MS → Env0 → Option Out
  | .asg k e, ρ => if k = ow then none else match evP Γ ρ e with
    | some d => some (.nxt (ρ.set k (some (.dat d))))
    | none => none
  | .unp sw ks e, ρ => if ks.contains ow then none else match evP Γ ρ e with
    | some (.tuple ds) => if ds.length = ks.length then some (.nxt (if sw then setAll ρ ks.reverse ds.reverse else setAll ρ ks ds)) else none
    | _ => none
  | .own, ρ => some (.nxt (ρ.set ow (some (.dat (.list [])))))
  | .own2 k e, ρ => if k = ow then none else match evP Γ ρ e with
    | some d => some (.nxt ((ρ.set k (some (.dat d))).set ow (some (.dat (.list [])))))
    | none => none
  | .aug k op e, ρ => if k = ow then none else match datAt ρ k, evP Γ ρ e with
    | some x, some y => (match augD op x y with
      | some d => some (.nxt (ρ.set k (some (.dat d))))
      | none => none)
    | _, _ => none
  | .ret e, ρ => (evP Γ ρ e).map .ret
  | .ite t a b, ρ => match evP Γ ρ t with
    | some (.bool true) => rL Γ ow a ρ
    | some (.bool false) => rL Γ ow b ρ
    | _ => none
  | .for1 k src body, ρ => if k = ow then none else match evP Γ ρ src with
    | some x => (match items x with
      | some xs => forGo (fun d ρ => rL Γ ow body (ρ.set k (some (.dat d)))) xs ρ
      | none => none)
    | none => none
  | .whl t body, ρ => whlGo (fun ρ => boolD (evP Γ ρ t)) (fun ρ => rL Γ ow body ρ) 1000 ρ
  | .push e, ρ => match ownXs ρ ow, evP Γ ρ e with
    | some xs, some d => if flat d = true ∧ xs.length < 1000000 then some (.nxt (ρ.set ow (some (.dat (.list (xs ++ [d])))))) else none
    | _, _ => none
  | .ext e, ρ => match ownXs ρ ow, evP Γ ρ e with
    | some xs, some x => (match items x with
      | some ys => if flatAll ys = true ∧ xs.length + ys.length ≤ 1000000 then some (.nxt (ρ.set ow (some (.dat (.list (xs ++ ys)))))) else none
      | none => none)
    | _, _ => none
  | .err, _ => none
  | .drop e, ρ => match evP Γ ρ e with
    | some .none => some (.nxt ρ)
    | _ => none
  | .forE kp kf kl src body, ρ => if [kp, kf, kl].contains ow then none else match evP Γ ρ src with
    | some (.list xs) => if xs.all isPairD then forGoT (fun ds ρ => rL Γ ow body (bdE kp kf kl ρ ds)) (enumE 0 xs) ρ else none
    | _ => none
  | .forZ k1 k2 a b body, ρ => if [k1, k2].contains ow then none else match evP Γ ρ a, evP Γ ρ b with
    | some (.list xs), some (.list ys) => if xs.all isListD then forGoT (fun ds ρ => rL Γ ow body (setAll ρ [k1, k2] ds)) (List.zipWith (fun x y => [x, y]) xs ys) ρ else none
    | _, _ => none
  | .setL e, ρ => match ownXs ρ ow, evP Γ ρ e with
    | some xs, some d => if flat d = true ∧ xs ≠ [] then some (.nxt (ρ.set ow (some (.dat (.list (xs.set (xs.length - 1) d)))))) else none
    | _, _ => none
noncomputable def rL (Γ : Ctab) (ow : Nat) : List MS → Env0 → Option Out
  | [], ρ => some (.nxt ρ)
  | m :: r, ρ => match rS Γ ow m ρ with
    | some (.nxt ρ') => rL Γ ow r ρ'
    | some (.ret d) => some (.ret d)
    | none => none
end

noncomputable def isLC (cx : Cx) (x : Str) : Bool := cx.names.lookup x == some .local || cx.names.lookup x == some .cell
/-- slots of names -/
noncomputable def allK (cx : Cx) : List Expr → Option (List Nat)
  | [] => some []
  | e :: r => (asName e).bind fun q => if cx.names.lookup q.x == some .local then (slotOf cx.slots q.x).bind fun k => (allK cx r).map (k :: ·) else none
noncomputable def allN : List Expr → List Str
  | [] => []
  | e :: r => match asName e with
    | some q => q.x :: allN r
    | none => []
noncomputable def lineOf : List Expr → Nat
  | [] => 0
  | e :: _ => match asName e with
    | some q => q.p.line
    | none => 0
noncomputable def onLine (l : Nat) : List Expr → Bool
  | [] => true
  | e :: r => match asName e with
    | some q => q.p.line == l && onLine l r
    | none => false
noncomputable def swapOk (ts vs : List Expr) : Bool :=
  (ts.length == 2 || ts.length == 3) && vs.length == ts.length && !(vs.any fun | .Starred .. => true | _ => false) && onLine (lineOf ts) ts && (allN ts).eraseDups.length == (allN ts).length &&
  !(vs.all (foldedForSure 8)) && !(vs.all (constantsAlone 8))

/-- the parts of a statement -/
noncomputable def lcSlot (cx : Cx) (x : Str) : Option Nat := if isLC cx x then slotOf cx.slots x else none
theorem lcSlot_spec {cx : Cx} {x : Str} {k : Nat} (h : lcSlot cx x = some k) : isLC cx x = true ∧ slotOf cx.slots x = some k := if_some h
/-- a call of a name -/
noncomputable abbrev IsCallN (e : Expr) := {q : Str × List Expr × Pos × Pos // e = .Call (.Name q.1 q.2.2.1) q.2.1 [] q.2.2.2}
theorem call_eq {f f' : Expr} {a a' : List Expr} {kw kw' : List Keyword} {p : Pos} (h1 : f = f') (h2 : a = a') (h3 : kw = kw') : Expr.Call f a kw p = .Call f' a' kw' p := by rw [h1, h2, h3]
noncomputable def callNm (e : Expr) : Option (IsCallN e) := (asCall e).bind fun c => (nil? c.kw).bind fun z => (asName c.f).map fun f => ⟨(f.x, c.as, f.p, c.p), c.h.trans (call_eq f.h rfl z.down)⟩
/-- the last item of a name's list -/
noncomputable abbrev IsLast (e : Expr) := {q : Str × Pos × Nat × Pos × Pos × Pos // e = .Subscript (.Name q.1 q.2.1) (.UnaryOp .USub (.Constant (.int 1) q.2.2.1 q.2.2.2.1) q.2.2.2.2.1) q.2.2.2.2.2}
theorem sub_eq {v v' i i' : Expr} {p : Pos} (h1 : v = v') (h2 : i = i') : Expr.Subscript v i p = .Subscript v' i' p := by rw [h1, h2]
noncomputable def asLast (e : Expr) : Option (IsLast e) := (asSub e).bind fun s => (asM1 s.i).bind fun m => (asName s.v).map fun x => ⟨(x.x, x.p, m.k, m.p, m.q, s.p), s.h.trans (sub_eq x.h m.h)⟩
/-- a name's method with one argument -/
noncomputable abbrev IsMeth (e : Expr) := {q : Str × Str × Expr × Pos × Pos × Pos // e = .Call (.Attribute (.Name q.1 q.2.2.2.1) q.2.1 q.2.2.2.2.1) [q.2.2.1] [] q.2.2.2.2.2 ∧ (q.2.2.2.2.1.endLine == q.2.2.2.2.2.line) = true}
noncomputable def methOf (e : Expr) : Option (IsMeth e) := (asCall e).bind fun c => (nil? c.kw).bind fun z => (asAttr c.f).bind fun a => (asName a.o).bind fun x => (one? c.as).bind fun b =>
  if h : (a.p.endLine == c.p.line) = true then some ⟨(x.x, a.n, b.a, x.p, a.p, c.p), c.h.trans (call_eq (a.h.trans (congrArg (Expr.Attribute · a.n a.p) x.h)) b.h z.down), h⟩ else none

noncomputable def cStore (cx : Cx) (ow : Nat) (C : Expr → Option ME) (value : Expr) (x : Str) : Option MS :=
  (lcSlot cx x).bind fun k => if k == ow then (asNilL value).map fun _ => .own else (C value).map (.asg k)
noncomputable def cOwn2 (ow : Nat) (C : Expr → Option ME) (ks : List Nat) (vs : List Expr) : Option MS :=
  (two? ks).bind fun k => (two? vs).bind fun v => (asNilL v.a).bind fun _ => if k.a == ow then (C v.b).map (.own2 k.b) else none
noncomputable def cUnp (cx : Cx) (ow : Nat) (C : Expr → Option ME) (value : Expr) (ts : List Expr) : Option MS :=
  (allK cx ts).bind fun ks => ((asTup value).bind fun vs => if swapOk ts vs.es then (cOwn2 ow C ks vs.es).or ((C value).map (.unp true ks)) else none).or
    ((asCall value).bind fun _ => (C value).map (.unp false ks))
noncomputable def okX (x : Str) : Bool := !(x == ("__debug__" : Str))
noncomputable def cSetL (cx : Cx) (ow : Nat) (C : Expr → Option ME) (value : Expr) (x : Str) : Option MS :=
  if slotOf cx.slots x == some ow && okX x then (C value).map .setL else none
noncomputable def cMeth1 (cx : Cx) (ow : Nat) (C C' : Expr → Option ME) (x n : Str) (e : Expr) : Option MS :=
  if slotOf cx.slots x == some ow && okX x then
    (if n == Str.ofString "append" then (C e).map .push else none).or (if n == Str.ofString "extend" then (C' e).map .ext else none) else none
noncomputable abbrev IsTgtE (e : Expr) := {q : Str × Str × Str × Pos × Pos × Pos × Nat × Pos × Nat × Pos // e = .Tuple [.Name q.1 q.2.2.2.1, .Tuple [.Name q.2.1 q.2.2.2.2.1, .Name q.2.2.1 q.2.2.2.2.2.1] q.2.2.2.2.2.2.1 q.2.2.2.2.2.2.2.1] q.2.2.2.2.2.2.2.2.1 q.2.2.2.2.2.2.2.2.2}
theorem tup_eq {a a' b b' : Expr} {l : List Expr} {j : Nat} {p : Pos} (h : l = [a, b]) (h1 : a = a') (h2 : b = b') : Expr.Tuple l j p = .Tuple [a', b'] j p := by rw [h, h1, h2]
noncomputable def tgtE (t : Expr) : Option (IsTgtE t) := (asTup t).bind fun ts => (two? ts.es).bind fun p => (asName p.a).bind fun a => (asTup p.b).bind fun q => (two? q.es).bind fun r => (asName r.a).bind fun b => (asName r.b).map fun c =>
  ⟨(a.x, b.x, c.x, a.p, b.p, c.p, q.j, q.p, ts.j, ts.p), ts.h.trans (tup_eq p.h a.h (q.h.trans (tup_eq r.h b.h c.h)))⟩
noncomputable abbrev IsTgtZ (e : Expr) := {q : Str × Str × Pos × Pos × Nat × Pos // e = .Tuple [.Name q.1 q.2.2.1, .Name q.2.1 q.2.2.2.1] q.2.2.2.2.1 q.2.2.2.2.2}
noncomputable def tgtZ (t : Expr) : Option (IsTgtZ t) := (asTup t).bind fun ts => (two? ts.es).bind fun p => (asName p.a).bind fun a => (asName p.b).map fun b => ⟨(a.x, b.x, a.p, b.p, ts.j, ts.p), ts.h.trans (tup_eq p.h a.h b.h)⟩
noncomputable def cForE (cx : Cx) (C : Expr → Option ME) (B : Option (List MS)) (t it : Expr) : Option MS :=
  (tgtE t).bind fun x => (callNm it).bind fun c => (one? c.1.2.1).bind fun src => if c.1.1 == Str.ofString "enumerate" && isGlob cx c.1.1 then
    (lcSlot cx x.1.1).bind fun ka => (lcSlot cx x.1.2.1).bind fun kb => (lcSlot cx x.1.2.2.1).bind fun kc => (C src.a).bind fun e => B.map (.forE ka kb kc e) else none
noncomputable def cForZ (cx : Cx) (C : Expr → Option ME) (B : Option (List MS)) (t it : Expr) : Option MS :=
  (tgtZ t).bind fun x => (callNm it).bind fun c => (two? c.1.2.1).bind fun ab => if c.1.1 == Str.ofString "zip" && isGlob cx c.1.1 then
    (lcSlot cx x.1.1).bind fun ka => (lcSlot cx x.1.2.1).bind fun kb => (C ab.a).bind fun e1 => (C ab.b).bind fun e2 => B.map (.forZ ka kb e1 e2) else none

mutual
noncomputable def cS (gt : GT) : Nat → Nat → Cx → Nat → Stmt → Option MS
  | 0, _, _, _, _ => none
  | n + 1, nx, cx, ow, s => match s with
    | .Assign ts value _ => (one? ts).bind fun t => ((asName t.a).bind fun x => cStore cx ow (cE gt n nx (cx.mask ow)) value x.x).or
        (((asTup t.a).bind fun t => cUnp cx ow (cE gt n nx (cx.mask ow)) value t.es).or ((asLast t.a).bind fun x => cSetL cx ow (cE gt n nx cx) value x.1.1))
    | .AugAssign t op value _ => (asName t).bind fun x => (lcSlot cx x.x).bind fun k => (bop op).bind fun o => (cE gt n nx (cx.mask ow) value).map (.aug k o.b)
    | .Return e _ => (some? e).bind fun e => (cE gt n nx cx e.a).map .ret
    | .If t a b _ => (cT gt n nx cx t).bind fun t => (cL gt n nx cx ow a).bind fun a => (cL gt n nx cx ow b).map (.ite t a)
    | .For t iter body orelse _ => (nil? orelse).bind fun _ =>
        ((asName t).bind fun x => if notSet iter then (lcSlot cx x.x).bind fun k => (cSrc gt n nx (cx.mask ow) iter).bind fun e => (cL gt n nx cx ow body).map (.for1 k e) else none).or
        ((cForE cx (cE gt n nx (cx.mask ow)) (cL gt n nx cx ow body) t iter).or (cForZ cx (cE gt n nx (cx.mask ow)) (cL gt n nx cx ow body) t iter))
    | .While t body orelse _ => (nil? orelse).bind fun _ => (cT gt n nx cx t).bind fun t => (cL gt n nx cx ow body).map (.whl t)
    | .Expr e _ => ((methOf e).bind fun m => cMeth1 cx ow (cE gt n nx cx) (cE gt n nx (cx.mask ow)) m.1.1 m.1.2.1 m.1.2.2.1).or
        ((callNm e).bind fun c => (one? c.1.2.1).bind fun _ => (cE gt n nx (cx.mask ow) e).map .drop)
    | .Raise _ _ _ => some .err
    | _ => none
termination_by structural n => n
noncomputable def cL (gt : GT) : Nat → Nat → Cx → Nat → List Stmt → Option (List MS)
  | 0, _, _, _, _ => none
  | n + 1, nx, cx, ow, ss => mapO (cS gt n nx cx ow) ss
termination_by structural n => n
end

section
variable {S : Sys} {prog : Program} {w : World} {L : Nat} {Γ : Ctab} {cx : Cx} {ow : Nat} {env : Env} {P₀ F P : Addr → Prop} {s₀ s : Shared} {hF : Heap} {A : Around} {ρ : Env0} {m : Str → Option Value} {E : Value → Shared → Prop}

/-- what a statement leaves -/
noncomputable def Post (S : Sys) (L : Nat) (cx : Cx) (ow : Nat) (env : Env) (P₀ : Addr → Prop) (s₀ : Shared) (F : Addr → Prop) (hF : Heap) (A : Around) : Out → Flow → Shared → Prop
  | .nxt ρ', f, s' => f = .next ∧ ∃ P m, Inv S L cx ow env P₀ s₀ F hF A ρ' s' P m
  | .ret d, f, s' => ∃ v, f = .ret v ∧ Keeps s₀ s' ∧ Rd (Up P₀ s₀) s'.heap v d

noncomputable def XS (S : Sys) (prog : Program) (w : World) (L : Nat) (Γ : Ctab) (cx : Cx) (ow : Nat) (st : Stmt) (ms : MS) : Prop :=
  ∀ ρ o env P₀ s₀ F hF A s P m E, rS Γ ow ms ρ = some o → Inv S L cx ow env P₀ s₀ F hF A ρ s P m → wpAny (model prog w) A (exec st env) (Post S L cx ow env P₀ s₀ F hF A o) E s
noncomputable def XL (S : Sys) (prog : Program) (w : World) (L : Nat) (Γ : Ctab) (cx : Cx) (ow : Nat) (st : List Stmt) (ms : List MS) : Prop :=
  ∀ ρ o env P₀ s₀ F hF A s P m E, rL Γ ow ms ρ = some o → Inv S L cx ow env P₀ s₀ F hF A ρ s P m → wpAny (model prog w) A (execs st env) (Post S L cx ow env P₀ s₀ F hF A o) E s

theorem rL_cons {m : MS} {r : List MS} {o : Out} {G : Prop} (h : rL Γ ow (m :: r) ρ = some o) (k1 : ∀ ρ', rS Γ ow m ρ = some (.nxt ρ') → rL Γ ow r ρ' = some o → G) (k2 : ∀ d, rS Γ ow m ρ = some (.ret d) → o = .ret d → G) : G := by
  have h : (match rS Γ ow m ρ with | some (.nxt ρ') => rL Γ ow r ρ' | some (.ret d) => some (.ret d) | none => none) = some o := h
  cases hs : rS Γ ow m ρ with
  | none => rw [hs] at h; cases h
  | some x =>
    rw [hs] at h
    cases x with
    | nxt ρ' => exact k1 ρ' hs h
    | ret d => cases h; exact k2 d hs rfl
theorem xl_of {f : Stmt → Option MS} (h : ∀ st ms, f st = some ms → XS S prog w L Γ cx ow st ms) : ∀ {sts : List Stmt} {mss : List MS}, mapO f sts = some mss → XL S prog w L Γ cx ow sts mss
  | [], mss, hm => by
    cases hm
    intro ρ o env P₀ s₀ F hF A s P m E hr I
    cases hr
    exact wpAny_execs_nil ⟨rfl, P, m, I⟩
  | st :: r, mss, hm => by
    refine k_bm (G := XL S prog w L Γ cx ow (st :: r)) hm fun y ys h1 h2 => ?_
    intro ρ o env P₀ s₀ F hF A s P m E hr I
    refine wpAny_execs_cons (rL_cons hr (fun ρ' hs hr => ?_) fun d hs ho => ?_)
    · refine wpAny_mono (h st y h1 ρ _ env P₀ s₀ F hF A s P m E hs I) (fun f s' hp => ?_) fun _ _ x => x
      obtain ⟨hf, P', m', I'⟩ := hp
      rw [hf]
      exact xl_of h h2 ρ' o env P₀ s₀ F hF A s' P' m' E hr I'
    · subst ho
      refine wpAny_mono (h st y h1 ρ _ env P₀ s₀ F hF A s P m E hs I) (fun f s' hp => ?_) fun _ _ x => x
      obtain ⟨v, hf, hk, hv⟩ := hp
      rw [hf]
      exact ⟨v, rfl, hk, hv⟩

/-- the value of an expression, in a frame -/
theorem ev_masked {n nx : Nat} (hs : Sound S prog w L Γ n) {e : Expr} {me : ME} {d : PyData} {Q : Value → Shared → Prop} (I : Inv S L cx ow env P₀ s₀ F hF A ρ s P m) (h : cE S.gt n nx (cx.mask ow) e = some me) (hv : evP Γ ρ me = some d)
    (hQ : ∀ v s', Keeps s s' → Inv S L cx ow env P₀ s₀ F hF A ρ s' (Nxt P s s') m → Rd (Nxt P s s') s'.heap v d → Q v s') : wpAny (model prog w) A (eval e env) Q E s := by
  refine ((hs.e _ _ _ _ h).e ρ d env P s A hv I.ctxM).bind fun v s' k r => hQ v s' k (I.step k) (r.mono (fun a o e p => ⟨p, o, e⟩) (.of_le (Le.refl _)))
theorem ev_full {n nx : Nat} (hs : Sound S prog w L Γ n) {e : Expr} {me : ME} {d : PyData} {Q : Value → Shared → Prop} (I : Inv S L cx ow env P₀ s₀ F hF A ρ s P m) (h : cE S.gt n nx cx e = some me) (hv : evP Γ ρ me = some d)
    (hQ : ∀ v s', Keeps s s' → Inv S L cx ow env P₀ s₀ F hF A ρ s' (Nxt P s s') m → Rd (Up P₀ s₀) s'.heap v d → Q v s') : wpAny (model prog w) A (eval e env) Q E s := by
  refine ((hs.e _ _ _ _ h).e ρ d env _ s A hv I.ctxF).bind fun v s' k r => hQ v s' k (I.step k) (r.mono (fun a o e p => ?_) (.of_le (Le.refl _)))
  rcases p with p | p
  · exact I.pF a p
  · right
    cases q : s₀.heap.get? a with
    | none => rfl
    | some o => rw [keeps_le I.k _ _ q] at p; cases p
theorem ts_full {n nx : Nat} (hs : Sound S prog w L Γ n) {e : Expr} {me : ME} {b : Bool} {Q : Bool → Shared → Prop} (I : Inv S L cx ow env P₀ s₀ F hF A ρ s P m) (h : cT S.gt n nx cx e = some me) (hv : evP Γ ρ me = some (.bool b))
    (hQ : ∀ s', Keeps s s' → Inv S L cx ow env P₀ s₀ F hF A ρ s' (Nxt P s s') m → Q b s') : wpAny (model prog w) A (isTrue e env (eval e env)) Q E s :=
  wpAny_mono (hs.t _ _ _ _ h ρ b env _ s A hv I.ctxF E) (fun v s' ⟨e, k⟩ => e ▸ hQ s' k (I.step k)) fun _ _ x => x

theorem isLC_of {x : Str} (h : isLC cx x = true) : cx.names.lookup x = some .local ∨ cx.names.lookup x = some .cell := by
  unfold isLC at h
  simpa [Bool.or_eq_true, beq_iff_eq] using h

/-- storing a datum -/
theorem Inv.put {k : Nat} {x : Str} {v : Value} {d : PyData} {Q : Unit → Shared → Prop} (I : Inv S L cx ow env P₀ s₀ F hF A ρ s P m) (hx : cx.slots[k]? = some (some x)) (hk : cx.names.lookup x = some .local ∨ cx.names.lookup x = some .cell)
    (hne : k ≠ ow) (hr : Rd P s.heap v d) (hQ : ∀ s' m', Inv S L cx ow env P₀ s₀ F hF A (ρ.set k (some (.dat d))) s' P m' → (∃ z, Heap.SameBut z s.heap s'.heap ∧ (z = env.locals ∨ ∃ n, env.cells.lookup n = some z)) → Q () s') : wpAny (model prog w) A (storeName env x v) Q E s :=
  I.store hx hk (by rw [if_neg hne]; exact hr) hQ
end
end Mine
end

section
open PySem PyProof.Rows PySem.W
set_option Elab.async false
set_option linter.unusedVariables false
set_option linter.unusedSimpArgs false
namespace Mine

mutual
theorem Rd.shrink {P P' : Addr → Prop} {h : Heap} (hp : ∀ a vs n, h.get? a = some (lob vs n) → P a → P' a) : ∀ {v : Value} {d : PyData}, Rd P h v d → Rd P' h v d
  | _, _, .none => .none
  | _, _, .bool b => .bool b
  | _, _, .int i t => .int i t
  | _, _, .list p e z r => .list (hp _ _ _ e p) e z (RdAll.shrink hp r)
  | _, _, .tuple e z r => .tuple e z (RdAll.shrink hp r)
theorem RdAll.shrink {P P' : Addr → Prop} {h : Heap} (hp : ∀ a vs n, h.get? a = some (lob vs n) → P a → P' a) : ∀ {vs : List Value} {ds : List PyData}, RdAll P h vs ds → RdAll P' h vs ds
  | _, _, .nil => .nil
  | _, _, .cons r s => .cons (Rd.shrink hp r) (RdAll.shrink hp s)
end
theorem Rep.shrink {S : Sys} {P P' : Addr → Prop} {h : Heap} (hp : ∀ a o, h.get? a = some o → ((∃ vs n, o = lob vs n) ∨ (∃ C d, o = instObj C d) ∨ ∃ es n, o = dictOf es n) → P a → P' a) {v : Value} {X : V} (r : Rep S P h v X) : Rep S P' h v X := by
  have hl : ∀ a vs n, h.get? a = some (lob vs n) → P a → P' a := fun a vs n e p => hp a _ e (.inl ⟨_, _, rfl⟩) p
  cases X with
  | dat d => exact Rd.shrink hl r
  | tab w m j =>
    obtain ⟨x, dx, vw, vm, vj, n, h1, h2, h3, t1, t2, t3, rfl, px, pd, ex, ed, rw, rm, rj⟩ := r
    exact ⟨x, dx, vw, vm, vj, n, h1, h2, h3, t1, t2, t3, rfl, hp _ _ ex (.inr (.inl ⟨_, _, rfl⟩)) px, hp _ _ ed (.inr (.inr ⟨_, _, rfl⟩)) pd, ex, ed, rw.shrink hl, rm.shrink hl, rj.shrink hl⟩
theorem ItO.not {o : Obj} (x : ItO o) : ¬ ((∃ vs n, o = lob vs n) ∨ (∃ C d, o = instObj C d) ∨ ∃ es n, o = dictOf es n) := by
  obtain ⟨T, h, h1, h2, h3⟩ := x
  rintro (⟨vs, n, rfl⟩ | ⟨C, d, rfl⟩ | ⟨es, n, rfl⟩)
  · injection h with h; exact h1 h.symm
  · cases h
  · injection h with h; exact h3 h.symm

section
variable {S : Sys} {prog : Program} {w : World} {L : Nat} {Γ : Ctab} {cx : Cx} {ow : Nat} {env : Env} {P₀ F P : Addr → Prop} {s₀ s : Shared} {hF : Heap} {A : Around} {ρ : Env0} {m : Str → Option Value} {E : Value → Shared → Prop}

/-- a smaller P, where nothing is lost -/
theorem Inv.shrink {P' : Addr → Prop} (I : Inv S L cx ow env P₀ s₀ F hF A ρ s P m) (h1 : ∀ a, P' a → P a)
    (hp : ∀ a o, s.heap.get? a = some o → ((∃ vs n, o = lob vs n) ∨ (∃ C d, o = instObj C d) ∨ ∃ es n, o = dictOf es n) → P a → P' a) : Inv S L cx ow env P₀ s₀ F hF A ρ s P' m := by
  refine ⟨I.e, I.k, I.b, I.r, I.nd, I.lf, I.cf, I.ap, I.fa, I.fk, I.fl, I.fc, fun a h => I.pu a (h1 a h), fun a h => I.pa a (h1 a h), fun h => I.pl (h1 _ h), fun n c h q => I.pc n c h (h1 _ q), I.ns, I.ce, fun k x X hk e1 e2 => ?_, fun x X e1 e2 => ?_, I.pin⟩
  · obtain ⟨v, hv, hr⟩ := I.sl k x X hk e1 e2
    exact ⟨v, hv, hr.shrink hp⟩
  · obtain ⟨D, xs, e3, hs, vs, n, h2, h3, h4, h5, h6, h7, h8⟩ := I.so x X e1 e2
    exact ⟨D, xs, e3, hs, vs, n, h2, fun q => h3 (h1 _ q), h4, h5, h6, RdAll.flat h7 h8, h8⟩

/-- a larger P -/
theorem Inv.more {P' : Addr → Prop} (I : Inv S L cx ow env P₀ s₀ F hF A ρ s P m) (h1 : ∀ a, P' a → Up P₀ s₀ a) (h2 : ∀ a, P' a → ∃ o, s.heap.get? a = some o) (h3 : ¬ P' env.locals) (h4 : ∀ (n : Str) (c : Addr), env.cells.lookup n = some c → ¬ P' c)
    (h5 : ∀ D, IsOwn cx ow env s₀ F P ρ s.heap m D → ¬ P' D) : Inv S L cx ow env P₀ s₀ F hF A ρ s (fun a => P a ∨ P' a) m := by
  refine ⟨I.e, I.k, I.b, I.r, I.nd, I.lf, I.cf, I.ap, I.fa, I.fk, I.fl, I.fc, fun a h => h.elim (I.pu a) (h1 a), fun a h => h.elim (I.pa a) (h2 a), fun h => h.elim I.pl h3, fun n c h q => q.elim (I.pc n c h) (h4 n c h), I.ns, I.ce, fun k x X hk e1 e2 => ?_, fun x X e1 e2 => ?_, I.pin⟩
  · obtain ⟨v, hv, hr⟩ := I.sl k x X hk e1 e2
    exact ⟨v, hv, hr.mono (fun _ _ _ p => .inl p) (.of_le (Le.refl _))⟩
  · obtain ⟨D, xs, e3, hs, ho⟩ := I.so x X e1 e2
    subst e3
    have hd := h5 D ⟨x, xs, e1, e2, hs, ho⟩
    obtain ⟨vs, n, q2, q3, q4, q5, q6, q7, q8⟩ := ho
    exact ⟨D, xs, rfl, hs, vs, n, q2, fun q => q.elim q3 hd, q4, q5, q6, RdAll.flat q7 q8, q8⟩

/-- something that is none of the frame's turns; the held part is chosen anew -/
theorem Inv.change {z : Addr} {h' : Heap} {tk : Nat} {F2 : Addr → Prop} {hF2 : Heap} (I : Inv S L cx ow env P₀ s₀ F hF A ρ s P m) (hs : ∀ a o, a ≠ z → s.heap.get? a = some o → h'.get? a = some o) (hz0 : s₀.heap.get? z = none) (hzP : ¬ P z)
    (hzn : ∀ o, s.heap.get? z = some o → NotSeq o) (hzl : z ≠ env.locals) (hzc : ∀ (n : Str) (c : Addr), env.cells.lookup n = some c → z ≠ c) (fa2 : ∀ a, F2 a → ∃ o, hF2.get? a = some o) (fk2 : ∀ a o, F2 a → hF2.get? a = some o → h'.get? a = some o)
    (fl2 : ¬ F2 env.locals) (fc2 : ∀ (n : Str) (c : Addr), env.cells.lookup n = some c → ¬ F2 c) (fo2 : ∀ D, IsOwn cx ow env s₀ F P ρ s.heap m D → ¬ F2 D) :
    Inv S L cx ow env P₀ s₀ F2 hF2 A ρ { s with heap := h', toks := tk } P m := by
  have same : Same P s.heap h' := fun a o e h => hs a o (fun q => by
    subst q
    rcases h with h | ⟨vs, n, h⟩
    · exact hzP h
    · exact (hzn o e).2 _ _ h) e
  have mS : ∀ {y u}, Slot env s.heap m y u → Slot env h' m y u := fun hu => by
    rcases hu with ⟨h1, h2⟩ | ⟨h1, c, h2, h3⟩
    · exact .inl ⟨h1, h2⟩
    · refine .inr ⟨h1, c, h2, ?_⟩
      obtain ⟨o, ho, hd⟩ := h3
      exact ⟨o, hs _ _ (Ne.symm (hzc _ c h2)) ho, hd⟩
  refine ⟨I.e, ?_, I.b, I.r, I.nd, I.lf, I.cf, I.ap, fa2, fk2, fl2, fc2, I.pu, fun a h => ?_, I.pl, I.pc, I.ns.at' fun o e => hs _ o (Ne.symm hzl) e, fun n c h => ?_, fun k x X hk e1 e2 => ?_, fun x X e1 e2 => ?_, fun y u hy => ⟨mS (I.pin y u hy).1, (I.pin y u hy).2⟩⟩
  · obtain ⟨h1, t1, rfl, k1⟩ := I.k
    exact ⟨h', tk, rfl, fun a o e => hs a o (fun q => by rw [q, hz0] at e; cases e) (k1 a o e)⟩
  · obtain ⟨o, e⟩ := I.pa a h
    exact ⟨o, hs a o (fun q => hzP (q ▸ h)) e⟩
  · obtain ⟨u, o, ho, hd⟩ := I.ce n c h
    exact ⟨u, o, hs _ _ (Ne.symm (hzc n c h)) ho, hd⟩
  · obtain ⟨v, hv, hr⟩ := I.sl k x X hk e1 e2
    exact ⟨v, mS hv, hr.mono (fun _ _ _ p => p) same⟩
  · obtain ⟨D, xs, e3, hsl, ho⟩ := I.so x X e1 e2
    subst e3
    have hf := fo2 D ⟨x, xs, e1, e2, hsl, ho⟩
    obtain ⟨vs, n, q2, q3, q4, q5, q6, q7, q8⟩ := ho
    exact ⟨D, xs, rfl, mS hsl, vs, n, hs _ _ (fun q => by rw [q] at q2; exact (hzn _ q2).1 _ _ rfl) q2, q3, q4, hf, q6, q7.mono (fun _ _ _ p => p) same, q8⟩

theorem Inv.rebase {F2 : Addr → Prop} {hF2 : Heap} (I : Inv S L cx ow env P₀ s₀ F hF A ρ s P m) (fa2 : ∀ a, F2 a → ∃ o, hF2.get? a = some o) (fk2 : ∀ a o, F2 a → hF2.get? a = some o → s.heap.get? a = some o)
    (fl2 : ¬ F2 env.locals) (fc2 : ∀ (n : Str) (c : Addr), env.cells.lookup n = some c → ¬ F2 c) (fo2 : ∀ D, IsOwn cx ow env s₀ F P ρ s.heap m D → ¬ F2 D) : Inv S L cx ow env P₀ s₀ F2 hF2 A ρ s P m := by
  have fr := fresh_size s.heap
  have := I.change (z := s.heap.objs.size) (h' := s.heap) (tk := s.toks) (fun _ _ _ e => e) (by
    cases q : s₀.heap.get? s.heap.objs.size with
    | none => rfl
    | some o => rw [keeps_le I.k _ _ q] at fr; cases fr) (fun h => by obtain ⟨o, e⟩ := I.pa _ h; rw [fr] at e; cases e) (fun o e => by rw [fr] at e; cases e)
    (fun q => by obtain ⟨o, e, _⟩ := ns_some I.ns; rw [← q, fr] at e; cases e) (fun n c h q => by obtain ⟨u, hu⟩ := I.ce n c h; obtain ⟨o, e, _⟩ := cell_some hu; rw [← q, fr] at e; cases e) fa2 fk2 fl2 fc2 fo2
  exact this

theorem swaps_plain {e : Expr} {t : Option Expr} {l : Nat} (h : ∀ a b c d, e ≠ .ListComp a b c d) (h2 : ∀ a b c d, e ≠ .SetComp a b c d) (h3 : ∀ a b c d f, e ≠ .DictComp a b c d f) : swapsWith e t l env = pure false := by
  cases e <;> first | rfl | exact absurd rfl (h _ _ _ _) | exact absurd rfl (h2 _ _ _ _) | exact absurd rfl (h3 _ _ _ _ _)
theorem cE_noSet {gt : GT} {n nx : Nat} {e : Expr} {me : ME} (h : cE gt n nx cx e = some me) : (∀ a b c d, e ≠ .SetComp a b c d) ∧ ∀ a b c d f, e ≠ .DictComp a b c d f := by
  constructor
  · intro a b c d q; subst q; cases n <;> cases h
  · intro a b c d f q; subst q; cases n <;> cases h
theorem rs_asg {k : Nat} {e : ME} {o : Out} (hk : k ≠ ow) (hr : rS Γ ow (.asg k e) ρ = some o) : ∃ d, evP Γ ρ e = some d ∧ o = .nxt (ρ.set k (some (.dat d))) := by
  have hr := (if_neg hk).symm.trans hr
  have hr : (match evP Γ ρ e with | some d => some (Out.nxt (ρ.set k (some (.dat d)))) | none => none) = some o := hr
  cases hd : evP Γ ρ e with
  | none => rw [hd] at hr; cases hr
  | some d => rw [hd] at hr; cases hr; exact ⟨d, rfl, rfl⟩
/-- x = e -/
theorem x_asg {n nx k : Nat} (hs : ∀ n, Sound S prog w L Γ n) {x : Str} {px pos : Pos} {value : Expr} {e : ME} (hl : isLC cx x = true) (hx : slotOf cx.slots x = some k) (hk : k ≠ ow) (hc : cE S.gt n nx (cx.mask ow) value = some e) :
    XS S prog w L Γ cx ow (.Assign [.Name x px] value pos) (.asg k e) := by
  intro ρ o env P₀ s₀ F hF A s P m E hr I
  obtain ⟨d, hd, q⟩ := rs_asg hk hr
  subst q
  have hx' := slotOf_get hx
  by_cases hcomp : ∃ a b c d, value = .ListComp a b c d
  · obtain ⟨elt, gens, scope, cpos, rfl⟩ := hcomp
    have hsw : ∃ b, swapsWith (.ListComp elt gens scope cpos) (some (.Name x px)) pos.line env = pure b := ⟨_, rfl⟩
    obtain ⟨b, hb⟩ := hsw
    cases b with
    | false =>
      refine wpAny_Assign_Name (ev_masked (hs n) I hc hd fun v s1 k1 I1 r1 => ?_) hb
      exact I1.put hx' (isLC_of hl) hk r1 fun s' m' I' _ => ⟨rfl, _, _, I'⟩
    | true =>
      rw [exec_Assign_Name_used _ _ _ _ hb]
      refine wpAny_bind (wpAny_standAt (wpAny_bind ?_))
      cases n with
      | zero => cases hc
      | succ n =>
        refine k_bbbm (G := fun e => evP Γ ρ e = some d → _) hc (fun q src me ts _ h1 h2 h3 hd => ?_) hd
        obtain ⟨xv, xs, ys, hxv, hxs, h4, hd⟩ := ev_compS hd
        subst hd
        obtain ⟨⟨x', px', iter, ifs⟩, e1, hok1, hok2⟩ := q
        subst e1
        show wpAny _ A (do let _ ← comprehension (.ListComp elt [⟨.Name x' px', iter, ifs, 0⟩] scope cpos) scope env _ (newList []) false (eval iter env) (some (assign (.Name x px) env))) _ _ s
        have hsrc := (hs n).s _ _ _ _ h1 ρ xv xs env P s A hxv hxs I.ctxM
        refine wpAny_bind (wpAny_mono (comp_gen (n := n) (m2 := 0) (use := some (assign (.Name x px) env)) (Q := fun _ s' => Post S L cx ow env P₀ s₀ F hF A (.nxt (ρ.set k (some (.dat (.list ys))))) .next s')
          (fun cx' me h => ((hs n).e _ cx' _ me h).e) (fun cx' e me h => (hs n).t _ cx' e me h) I.ctxM hok1 hok2 hsrc h2 h3 h4 ?_) (fun _ s' hq => wpAny_pure (wpAny_pure hq)) fun _ _ x => x)
        intro D C s1 m1 k1 hD hC hn hsame hrd
        obtain ⟨oC, eC, nC⟩ := ns_some hn
        show wpAny _ A (assign (.Name x px) env (.ref D)) _ _ _
        have cL : C ≠ env.locals := fun q => by obtain ⟨o, e, _⟩ := ns_some I.ns; rw [← q, hC] at e; cases e
        have cC : ∀ n c, env.cells.lookup n = some c → C ≠ c := fun n c h q => by obtain ⟨u, hu⟩ := I.ce n c h; obtain ⟨o, e, _⟩ := cell_some hu; rw [← q, hC] at e; cases e
        have c0 : s₀.heap.get? C = none := by
          cases q : s₀.heap.get? C with
          | none => rfl
          | some o => rw [keeps_le I.k _ _ q] at hC; cases hC
        have cF : ¬ F C := fun h => by obtain ⟨o, e⟩ := I.fa _ h; rw [I.fk _ _ h e] at hC; cases hC
        have hle := keeps_le k1
        -- what is kept, and what the comprehension made, but its frame
        have I1 : Inv S L cx ow env P₀ s₀ F hF A ρ s1 (fun a => Nxt P s s1 a ∧ a ≠ C) m := by
          refine ⟨I.e, keeps_trans I.k k1, I.b, I.r, I.nd, I.lf, I.cf, I.ap, I.fa, fun a o h e => hle _ _ (I.fk a o h e), I.fl, I.fc, fun a h => (I.step k1).pu a h.1, fun a h => h.1.2, fun h => (I.step k1).pl h.1, fun n c h q => (I.step k1).pc n c h q.1, I.ns.keeps hle,
            (I.step k1).ce, fun k x X hk e1 e2 => ?_, fun x X e1 e2 => ?_, (I.step k1).pin⟩
          · obtain ⟨v, hv, hr⟩ := I.sl k x X hk e1 e2
            exact ⟨v, hv.keeps hle, hr.mono (fun a o e p => ⟨⟨.inl p, o, hle _ _ e⟩, fun q => by rw [q, hC] at e; cases e⟩) (.of_le hle)⟩
          · obtain ⟨D, xs, e3, hs, vs, n, q2, q3, q4, q5, q6, q7, q8⟩ := (I.step k1).so x X e1 e2
            exact ⟨D, xs, e3, hs, vs, n, q2, fun q => q3 q.1, q4, q5, q6, RdAll.flat q7 q8, q8⟩
        have rD : Rd (fun a => Nxt P s s1 a ∧ a ≠ C) s1.heap (.ref D) (.list ys) := Rd.shrink (P := Up P s) (fun a vs n e p => ⟨⟨p, _, e⟩, fun q => by rw [q, eC] at e; cases e; exact nC.1 _ _ rfl⟩) hrd
        refine wpAny_assign_Name (I1.put hx' (isLC_of hl) hk rD fun s' m' I' hz => ?_)
        obtain ⟨z, hz1, hz2⟩ := hz
        have hzC : C ≠ z := fun q => by
          rcases hz2 with hz2 | ⟨n', hz2⟩
          · exact cL (q.trans hz2)
          · exact cC n' z hz2 q
        refine ⟨m1, hn.sameBut hz1 hzC, fun h3 hs3 => ⟨rfl, _, _, I'.change (tk := s'.toks) (fun a o hne e => hs3.extBut a o hne e) c0 (fun h => h.2 rfl) (fun o e => ?_) cL cC I'.fa (fun a o h e => hs3.extBut a o (fun q => cF (q ▸ h)) (I'.fk a o h e)) I'.fl I'.fc fun D ho => by obtain ⟨_, _, _, _, _, _, _, _, _, _, h, _⟩ := ho; exact h⟩⟩
        rw [hz1.extBut C oC hzC eC] at e
        cases e; exact nC
  · have hv := cE_noSet hc
    refine wpAny_Assign_Name (ev_masked (hs n) I hc hd fun v s1 k1 I1 r1 => ?_) (swaps_plain (fun a b c d q => hcomp ⟨a, b, c, d, q⟩) hv.1 hv.2)
    exact I1.put hx' (isLC_of hl) hk r1 fun s' m' I' _ => ⟨rfl, _, _, I'⟩
end
end Mine
end

section
open PySem PyProof.Rows PySem.W
set_option Elab.async false
set_option linter.unusedVariables false
set_option linter.unusedSimpArgs false
namespace Mine
section
variable {S : Sys} {prog : Program} {w : World} {L : Nat} {Γ : Ctab} {cx : Cx} {ow : Nat} {env : Env} {P₀ F P : Addr → Prop} {s₀ s : Shared} {hF : Heap} {A : Around} {ρ : Env0} {m : Str → Option Value} {E : Value → Shared → Prop}

theorem Inv.stepP {s1 : Shared} {P1 : Addr → Prop} (I : Inv S L cx ow env P₀ s₀ F hF A ρ s P m) (k1 : Keeps s s1) (h1 : ∀ a, P a → P1 a) (h2 : ∀ a, P1 a → Nxt P s s1 a) : Inv S L cx ow env P₀ s₀ F hF A ρ s1 P1 m := by
  have I1 := I.step k1
  have hle := keeps_le k1
  refine ⟨I.e, I1.k, I.b, I.r, I.nd, I.lf, I.cf, I.ap, I.fa, I1.fk, I.fl, I.fc, fun a h => I1.pu a (h2 a h), fun a h => (h2 a h).2, fun h => I1.pl (h2 _ h), fun n c h q => I1.pc n c h (h2 _ q), I1.ns, I1.ce, fun k x X hk e1 e2 => ?_, fun x X e1 e2 => ?_, I1.pin⟩
  · obtain ⟨v, hv, hr⟩ := I.sl k x X hk e1 e2
    exact ⟨v, hv.keeps hle, hr.mono (fun a o e p => h1 a p) (.of_le hle)⟩
  · obtain ⟨D, xs, e3, hs, vs, n, q2, q3, q4, q5, q6, q7, q8⟩ := I1.so x X e1 e2
    exact ⟨D, xs, e3, hs, vs, n, q2, fun q => q3 (h2 _ q), q4, q5, q6, RdAll.flat q7 q8, q8⟩
theorem Inv.same {s1 : Shared} (I : Inv S L cx ow env P₀ s₀ F hF A ρ s P m) (k1 : Keeps s s1) : Inv S L cx ow env P₀ s₀ F hF A ρ s1 P m :=
  I.stepP k1 (fun _ h => h) fun a h => ⟨.inl h, let ⟨o, e⟩ := I.pa a h; ⟨o, keeps_le k1 _ _ e⟩⟩

/-- a datum stays when a name is bound -/
theorem Inv.sameRd {z : Addr} {h' : Heap} (I : Inv S L cx ow env P₀ s₀ F hF A ρ s P m) (hs : Heap.SameBut z s.heap h') (hz : z = env.locals ∨ ∃ n, env.cells.lookup n = some z) : Same P s.heap h' := by
  have hn : ¬ P z ∧ ∃ o, s.heap.get? z = some o ∧ NotSeq o := by
    rcases hz with rfl | ⟨n, hn⟩
    · exact ⟨I.pl, ns_some I.ns⟩
    · obtain ⟨u, hu⟩ := I.ce n z hn
      exact ⟨I.pc n z hn, cell_some hu⟩
  obtain ⟨hp, o, eo, no⟩ := hn
  exact fun a o' e h => hs.extBut a o' (fun q => by
    subst q
    rcases h with h | ⟨vs, n, h⟩
    · exact hp h
    · rw [e] at eo; cases eo; exact no.2 _ _ h) e

noncomputable def StoreT (prog : Program) (w : World) (A : Around) (env : Env) (x : Str) (t : Value → Sem Unit) : Prop :=
  ∀ v (Q : Unit → Shared → Prop) (E : Value → Shared → Prop) s, wpAny (model prog w) A (storeName env x v) Q E s → wpAny (model prog w) A (t v) Q E s

theorem put_all {ts : List (Value → Sem Unit)} {xs : List Str} {ks : List Nat} {vs : List Value} {ds : List PyData} (hlen : ts.length = ks.length) (hlx : xs.length = ks.length) (hv : vs.length = ks.length)
    (ht : ∀ (i : Nat) (t : Value → Sem Unit) (x : Str), ts[i]? = some t → xs[i]? = some x → StoreT prog w A env x t) (hk : ∀ (i k : Nat) (x : Str), ks[i]? = some k → xs[i]? = some x → cx.slots[k]? = some (some x) ∧ (cx.names.lookup x = some .local ∨ cx.names.lookup x = some .cell) ∧ k ≠ ow)
    (I : Inv S L cx ow env P₀ s₀ F hF A ρ s P m) (hr : RdAll P s.heap vs ds) {Q : Unit → Shared → Prop} (hQ : ∀ s' P' m', Inv S L cx ow env P₀ s₀ F hF A (setAll ρ ks ds) s' P' m' → Q () s') :
    wpAny (model prog w) A (assignInOrder ts vs) Q E s := by
  induction ks generalizing ts xs vs ds ρ s m with
  | nil =>
    cases ts with
    | nil =>
      refine wpAny_pure (hQ s P m ?_)
      unfold setAll
      cases ds <;> exact I
    | cons _ _ => cases hlen
  | cons k ks ih =>
    cases ts with
    | nil => cases hlen
    | cons t ts =>
      cases xs with
      | nil => cases hlx
      | cons x xs =>
        cases hr with
        | nil => cases hv
        | @cons v vs d ds r rs =>
          obtain ⟨h1, h2, h3⟩ := hk 0 k x rfl rfl
          show wpAny _ A (holding vs (t v) >>= fun _ => assignInOrder ts vs) Q E s
          refine wpAny_bind (wpAny_holding (ht 0 t x rfl rfl v _ _ _ (I.put h1 h2 h3 r fun s' m' I' hz => ?_)))
          obtain ⟨z, hz1, hz2⟩ := hz
          refine ih (Nat.succ.inj hlen) (Nat.succ.inj hlx) (Nat.succ.inj hv) (fun i t x e1 e2 => ht (i + 1) t x (by simpa using e1) (by simpa using e2)) (fun i k x e1 e2 => hk (i + 1) k x (by simpa using e1) (by simpa using e2)) I' (rs.mono (fun _ _ _ p => p) (I.sameRd hz1 hz2)) fun s'' P'' m'' I'' => ?_
          exact hQ s'' P'' m'' (by rw [setAll]; exact I'')

theorem storeT_bind {x : Str} : StoreT prog w A env x (fun v => bindName env x v) := fun v Q E s h => wpAny_bindName h
theorem storeT_assign {x : Str} {p : Pos} : StoreT prog w A env x (assign (.Name x p) env) := fun v Q E s h => wpAny_assign_Name h

/-- names, their slots -/
inductive AllK (cx : Cx) : List Expr → List Str → List Nat → Prop
  | nil : AllK cx [] [] []
  | cons {x : Str} {p : Pos} {k : Nat} {ts : List Expr} {xs : List Str} {ks : List Nat} : slotOf cx.slots x = some k → cx.names.lookup x = some .local → AllK cx ts xs ks → AllK cx (.Name x p :: ts) (x :: xs) (k :: ks)
theorem allK_is : ∀ {ts : List Expr} {ks : List Nat}, allK cx ts = some ks → AllK cx ts (allN ts) ks
  | [], ks, h => by cases h; exact .nil
  | e :: r, ks, h => k_bind (G := AllK cx (e :: r) (allN (e :: r))) h fun q _ h => k_if h fun hl h => k_bm h fun k ks h1 h2 => by
    obtain ⟨⟨x, p⟩, e1⟩ := q
    subst e1
    exact .cons h1 (beq_iff_eq.mp hl) (allK_is h2)
theorem AllK.len {ts : List Expr} {xs : List Str} {ks : List Nat} (h : AllK cx ts xs ks) : xs.length = ts.length ∧ ks.length = ts.length := by
  induction h with
  | nil => exact ⟨rfl, rfl⟩
  | cons _ _ _ ih => exact ⟨congrArg (· + 1) ih.1, congrArg (· + 1) ih.2⟩
theorem AllK.get {ts : List Expr} {xs : List Str} {ks : List Nat} (h : AllK cx ts xs ks) : ∀ (i k : Nat) (x : Str), ks[i]? = some k → xs[i]? = some x → cx.slots[k]? = some (some x) ∧ cx.names.lookup x = some .local := by
  induction h with
  | nil => intro i k x e; cases e
  | cons h1 h2 _ ih =>
    intro i k x e1 e2
    cases i with
    | zero => cases e1; cases e2; exact ⟨slotOf_get h1, h2⟩
    | succ i => exact ih i k x e1 e2

theorem swapped_names (he : EnvOk cx env) {ts : List Expr} {xs : List Str} {ks : List Nat} {l : Nat} (h : AllK cx ts xs ks) : onLine l ts = true →
    (ts.filterMap fun | .Name id pos => if env.kindOf id == some .local && pos.line == l then some id else none | _ => none) = xs := by
  induction h with
  | nil => intro _; rfl
  | @cons x p k ts xs ks h1 h2 _ ih =>
    intro ho
    have ho : (p.line == l && onLine l ts) = true := ho
    obtain ⟨o1, o2⟩ := Bool.and_eq_true_iff.mp ho
    have hk : (env.kindOf x == some .local && p.line == l) = true := by rw [kindOf_eq he, h2, o1]; rfl
    exact Eq.trans (by refine List.filterMap_cons_some (b := x) ?_; exact if_pos hk) (congrArg (x :: ·) (ih o2))

theorem swapped_ok (he : EnvOk cx env) {ts vs : List Expr} {ks : List Nat} {j i : Nat} {tp vp : Pos} (h : allK cx ts = some ks) (ho : swapOk ts vs = true) : swappedStores [.Tuple ts j tp] (.Tuple vs i vp) env = pure (some (allN ts)) := by
  have hK := allK_is h
  unfold swapOk at ho
  obtain ⟨ho, h7⟩ := Bool.and_eq_true_iff.mp ho
  obtain ⟨ho, h6⟩ := Bool.and_eq_true_iff.mp ho
  obtain ⟨ho, h5⟩ := Bool.and_eq_true_iff.mp ho
  obtain ⟨ho, h4⟩ := Bool.and_eq_true_iff.mp ho
  obtain ⟨ho, h3⟩ := Bool.and_eq_true_iff.mp ho
  obtain ⟨h1, h2⟩ := Bool.and_eq_true_iff.mp ho
  have hb : env.blockKind = .function := by unfold Env.blockKind; rw [he.kind]; rfl
  have hline : (ts.head?.map (·.pos.line)).getD 0 = lineOf ts := by cases hK <;> rfl
  have hn := swapped_names he hK h4
  have hlen := hK.len.1
  have hvl : vs.length = ts.length := beq_iff_eq.mp h2
  have key : ∀ names : List Str, names = allN ts → ¬ ((names.length != ts.length || names.eraseDups.length != names.length) = true) := by
    intro names hq
    subst hq
    rw [hlen, beq_iff_eq.mp h5, hlen, bne_self_eq_false]
    exact Bool.false_ne_true
  unfold swappedStores
  refine Eq.trans (if_neg ?_) (Eq.trans (if_neg ?_) (Eq.trans (if_neg (key _ ?_)) (Eq.trans (if_neg ?_) (Eq.trans (if_neg ?_) ?_))))
  · rw [h1, hvl, hb]; simp
  · exact fun q => by cases h3.symm.trans ((congrArg (!·) q).trans rfl)
  · rw [hline]; exact hn
  · rw [not_false' h6]; exact Bool.false_ne_true
  · rw [not_false' h7]; exact Bool.false_ne_true
  · rw [hline]; exact congrArg (fun x => (pure (some x) : Sem (Option (List Str)))) hn

theorem rs_unp {sw : Bool} {ks : List Nat} {e : ME} {o : Out} (hr : rS Γ ow (.unp sw ks e) ρ = some o) : ow ∉ ks ∧ ∃ ds, evP Γ ρ e = some (.tuple ds) ∧ ds.length = ks.length ∧ o = .nxt (if sw then setAll ρ ks.reverse ds.reverse else setAll ρ ks ds) := by
  have hr : (if ks.contains ow then none else match evP Γ ρ e with | some (.tuple ds) => if ds.length = ks.length then some (Out.nxt (if sw then setAll ρ ks.reverse ds.reverse else setAll ρ ks ds)) else none | _ => none) = some o := hr
  cases hc : ks.contains ow with
  | true => rw [hc] at hr; cases hr
  | false =>
    rw [hc] at hr
    refine ⟨fun q => Bool.false_ne_true (hc.symm.trans (List.contains_iff_mem.mpr q)), ?_⟩
    have hr : (match evP Γ ρ e with | some (.tuple ds) => if ds.length = ks.length then some (Out.nxt (if sw then setAll ρ ks.reverse ds.reverse else setAll ρ ks ds)) else none | _ => none) = some o := hr
    cases hd : evP Γ ρ e with
    | none => rw [hd] at hr; cases hr
    | some x =>
      rw [hd] at hr
      cases x with
      | tuple ds =>
        by_cases hl : ds.length = ks.length
        · exact ⟨ds, rfl, hl, (Option.some.inj ((if_pos hl).symm.trans hr)).symm⟩
        · cases (if_neg hl).symm.trans hr
      | _ => cases hr
theorem rs_own2 {k : Nat} {e : ME} {o : Out} (hr : rS Γ ow (.own2 k e) ρ = some o) : k ≠ ow ∧ ∃ d, evP Γ ρ e = some d ∧ o = .nxt ((ρ.set k (some (.dat d))).set ow (some (.dat (.list [])))) := by
  by_cases hk : k = ow
  · cases (if_pos hk).symm.trans hr
  · have hr := (if_neg hk).symm.trans hr
    have hr : (match evP Γ ρ e with | some d => some (Out.nxt ((ρ.set k (some (.dat d))).set ow (some (.dat (.list []))))) | none => none) = some o := hr
    cases hd : evP Γ ρ e with
    | none => rw [hd] at hr; cases hr
    | some d => rw [hd] at hr; cases hr; exact ⟨hk, d, rfl, rfl⟩

theorem x_unpT {n nx : Nat} (hs : ∀ n, Sound S prog w L Γ n) {ts vs : List Expr} {ks : List Nat} {j i : Nat} {tp vp pos : Pos} {e : ME} (ho : swapOk ts vs = true) (hk : allK cx ts = some ks) (hc : cE S.gt n nx (cx.mask ow) (.Tuple vs i vp) = some e) :
    XS S prog w L Γ cx ow (.Assign [.Tuple ts j tp] (.Tuple vs i vp) pos) (.unp true ks e) := by
  intro ρ o env P₀ s₀ F hF A s P m E hr I
  obtain ⟨how, ds, hd, hdl, ho'⟩ := rs_unp hr
  subst ho'
  have hK := allK_is hk
  obtain ⟨q1, q2⟩ := hK.len
  have q3 := hK.get
  refine Assign_Tuple_swapped (ev_masked (hs n) I hc hd fun v s1 k1 I1 r1 => ?_) rfl (swapped_ok I.e hk ho)
  obtain ⟨t, us, n', hv, et, sz, rt⟩ := tup_inv r1
  · rw [hv]
    have hul := rt.length
    rw [Array.length_toList] at hul
    have hN : (allN ts).length = us.size := by rw [q1, ← q2, hul, hdl]
    rw [hN]
    refine wpAny_unpackItems_tuple I.r.hd ⟨_, et, rfl, _, rfl⟩ fun h' he => ?_
    have k2 : Keeps s1 { s1 with heap := h' } := keeps_heap' fun a o e => he a o (Nat.ne_of_lt (Heap.lt_size e)) e
    refine put_all (ts := (allN ts).reverse.map fun n => fun v => bindName env n v) (xs := (allN ts).reverse) (ks := ks.reverse) (ds := ds.reverse) (by simp [q1, q2]) (by simp [q1, q2]) (by simp [hul, hdl]) (fun i t x e1 e2 => ?_) (fun i k x e1 e2 => ?_) (I1.same k2) ?_ fun s' P' m' I' => ⟨rfl, P', m', by simpa using I'⟩
    · rw [List.getElem?_map, e2] at e1
      cases e1
      exact storeT_bind
    · have hi : i < ks.length := by have := (List.getElem?_eq_some_iff.mp e1).1; rwa [List.length_reverse] at this
      rw [List.getElem?_reverse hi] at e1
      rw [List.getElem?_reverse (by rw [q1, ← q2]; exact hi), q1, ← q2] at e2
      obtain ⟨a, b⟩ := q3 _ k x e1 e2
      exact ⟨a, .inl b, fun q => how (by rw [← q]; simpa using List.mem_of_getElem? e1)⟩
    · exact RdAll.reverse (rt.mono (fun _ _ _ p => p) (.of_le (keeps_le k2)))

theorem each_names {ts : List Expr} {xs : List Str} {ks : List Nat} (h : AllK cx ts xs ks) : (assignEach ts env).length = ts.length ∧ (assignEach ts env).findIdx? (·.1) = none ∧ ∀ (i : Nat) (t : Value → Sem Unit) (x : Str), ((assignEach ts env).map (·.2))[i]? = some t → xs[i]? = some x → StoreT prog w A env x t := by
  induction h with
  | nil => exact ⟨rfl, rfl, fun i t x e => by cases e⟩
  | @cons x p k ts xs ks h1 h2 _ ih =>
    obtain ⟨a, b, c⟩ := ih
    have e0 : assignEach (.Name x p :: ts) env = (false, assign (.Name x p) env) :: assignEach ts env := rfl
    rw [e0]
    refine ⟨congrArg (· + 1) a, by rw [List.findIdx?_cons, b]; rfl, fun i t y e1 e2 => ?_⟩
    cases i with
    | zero => cases e1; cases e2; exact storeT_assign
    | succ i => exact c i t y e1 e2

theorem x_unpC {n nx : Nat} (hs : ∀ n, Sound S prog w L Γ n) {ts as : List Expr} {f : Expr} {kw : List Keyword} {ks : List Nat} {j : Nat} {tp cp pos : Pos} {e : ME} (hk : allK cx ts = some ks) (hc : cE S.gt n nx (cx.mask ow) (.Call f as kw cp) = some e) :
    XS S prog w L Γ cx ow (.Assign [.Tuple ts j tp] (.Call f as kw cp) pos) (.unp false ks e) := by
  intro ρ o env P₀ s₀ F hF A s P m E hr I
  obtain ⟨how, ds, hd, hdl, ho'⟩ := rs_unp hr
  subst ho'
  have hK := allK_is hk
  obtain ⟨q1, q2⟩ := hK.len
  have q3 := hK.get
  refine Assign_Tuple (ev_masked (hs n) I hc hd fun v s1 k1 I1 r1 => ?_) rfl rfl
  obtain ⟨t, us, n', hv, et, sz, rt⟩ := tup_inv r1
  · rw [hv]
    have hul := rt.length
    rw [Array.length_toList] at hul
    obtain ⟨a, b, c⟩ := each_names (prog := prog) (w := w) (A := A) (env := env) hK
    refine assign_Tuple_tuple I.r.hd (isTup_of et) (by rw [a, ← q2, hul, hdl]) b fun h' he => ?_
    have k2 : Keeps s1 { s1 with heap := h' } := keeps_heap' fun a o e => he a o (Nat.ne_of_lt (Heap.lt_size e)) e
    refine put_all (xs := allN ts) (ks := ks) (ds := ds) (by simp [a, q2]) (by rw [q1, q2]) (by simp [hul, hdl]) c (fun i k x e1 e2 => ?_) (I1.same k2) (rt.mono (fun _ _ _ p => p) (.of_le (keeps_le k2))) fun s' P' m' I' => ⟨rfl, P', m', by simpa using I'⟩
    obtain ⟨a, b⟩ := q3 _ k x e1 e2
    exact ⟨a, .inl b, fun q => how (by rw [← q]; simpa using List.mem_of_getElem? e1)⟩

/-- a new list of the frame's own -/
theorem own_new (I : Inv S L cx ow env P₀ s₀ F hF A ρ s P m) : (∀ o, s.heap.get? s.heap.objs.size ≠ some o) ∧ ¬ P s.heap.objs.size ∧ s₀.heap.get? s.heap.objs.size = none ∧ ¬ F s.heap.objs.size := by
  have fr := fresh_size s.heap
  refine ⟨fun o e => (by rw [fr] at e; cases e), fun h => (by obtain ⟨o, e⟩ := I.pa _ h; rw [fr] at e; cases e), ?_, fun h => (by obtain ⟨o, e⟩ := I.fa _ h; rw [I.fk _ _ h e] at fr; cases fr)⟩
  cases q : s₀.heap.get? s.heap.objs.size with
  | none => rfl
  | some o => rw [keeps_le I.k _ _ q] at fr; cases fr

theorem x_own {x : Str} {px lp pos : Pos} (hl : isLC cx x = true) (hx : slotOf cx.slots x = some ow) : XS S prog w L Γ cx ow (.Assign [.Name x px] (.List [] lp) pos) .own := by
  intro ρ o env P₀ s₀ F hF A s P m E hr I
  have hr : some (Out.nxt (ρ.set ow (some (.dat (.list []))))) = some o := hr
  cases hr
  obtain ⟨f1, f2, f3, f4⟩ := own_new I
  refine wpAny_Assign_Name (wpAny_List (wpAny_items_nil ⟨Nat.zero_le _, ?_⟩)) rfl
  have k1 : Keeps s { s with heap := s.heap.push { cls := .type "list", data := .seq ([] : List Value).toArray } } := keeps_heap' (Le.push _ _)
  refine (I.same k1).store (slotOf_get hx) (isLC_of hl) ?_ fun s' m' I' _ => ⟨rfl, _, _, I'⟩
  rw [if_pos rfl]
  exact ⟨_, [], rfl, rfl, #[], 0, Heap.get?_push_size _ rfl, f2, f3, f4, Nat.zero_le _, .nil, rfl⟩

theorem x_own2 {n nx k a : Nat} (hs : ∀ n, Sound S prog w L Γ n) {ts : List Expr} {ev : Expr} {j i : Nat} {tp vp lp pos : Pos} {e : ME} (ho : swapOk ts [.List [] lp, ev] = true) (hk : allK cx ts = some [a, k]) (ha : a = ow) (hc : cE S.gt n nx (cx.mask ow) ev = some e) :
    XS S prog w L Γ cx ow (.Assign [.Tuple ts j tp] (.Tuple [.List [] lp, ev] i vp) pos) (.own2 k e) := by
  subst ha
  intro ρ o env P₀ s₀ F hF A s P m E hr I
  obtain ⟨how, d, hd, ho'⟩ := rs_own2 hr
  subst ho'
  have hK := allK_is hk
  obtain ⟨q1, q2⟩ := hK.len
  have q3 := hK.get
  obtain ⟨x, y, hN⟩ : ∃ x y, allN ts = [x, y] := by
    rw [← q2] at q1
    cases hq : allN ts with
    | nil => rw [hq] at q1; cases q1
    | cons x r => cases r with
      | nil => rw [hq] at q1; cases q1
      | cons y r => cases r with
        | nil => exact ⟨x, y, rfl⟩
        | cons z r => rw [hq] at q1; simp at q1
  rw [hN] at q3
  obtain ⟨x1, x2⟩ := q3 0 a x rfl rfl
  obtain ⟨y1, y2⟩ := q3 1 k y rfl rfl
  obtain ⟨f1, f2, f3, f4⟩ := own_new I
  refine Assign_Tuple_swapped (names := allN ts) (wpAny_Tuple (wpAny_items_cons (wpAny_List (wpAny_items_nil ⟨Nat.zero_le _, ?_⟩)) rfl)) rfl (swapped_ok I.e hk ho)
  have k1 : Keeps s { s with heap := s.heap.push { cls := .type "list", data := .seq ([] : List Value).toArray } } := keeps_heap' (Le.push _ _)
  have I1 := I.same k1
  have hD1 : (s.heap.push { cls := .type "list", data := .seq ([] : List Value).toArray }).get? s.heap.objs.size = some (lob #[] 0) := Heap.get?_push_size _ rfl
  refine wpAny_items_cons (ev_masked (hs n) I1 hc hd fun v s2 k2 I2 r2 => wpAny_items_nil ?_) (starEach_cons (by rw [cE_star hc]; rfl)).1
  refine ⟨by rw [sizeLine_eq]; show 2 ≤ _; omega, ?_⟩
  have nD2 : ¬ Nxt P { s with heap := s.heap.push { cls := .type "list", data := .seq ([] : List Value).toArray } } s2 s.heap.objs.size := fun h => by
    rcases h.1 with h | h
    · exact f2 h
    · rw [show ({ s with heap := s.heap.push { cls := .type "list", data := .seq ([] : List Value).toArray } } : Shared).heap.get? s.heap.objs.size = _ from hD1] at h; cases h
  generalize hT : ({ cls := .type "tuple", data := .seq ([.ref s.heap.objs.size, v] : List Value).toArray } : Obj) = T
  have k3 : Keeps s2 { s2 with heap := s2.heap.push T } := keeps_heap' (Le.push _ _)
  have et : (s2.heap.push T).get? s2.heap.objs.size = some (tob #[.ref s.heap.objs.size, v] 0) := by rw [← hT]; exact Heap.get?_push_size _ rfl
  rw [hN]
  refine wpAny_unpackItems_tuple (items := #[.ref s.heap.objs.size, v]) (s := { s2 with heap := s2.heap.push T }) I.r.hd ⟨_, et, rfl, _, rfl⟩ fun h' he => ?_
  have k4 : Keeps { s2 with heap := s2.heap.push T } { s2 with heap := h' } := keeps_heap' fun a o e => he a o (Nat.ne_of_lt (Heap.lt_size e)) e
  have k24 := keeps_trans k3 k4
  have I4 := I2.same k24
  show wpAny _ A (holding [.ref s.heap.objs.size] (bindName env y v) >>= fun _ => assignInOrder [fun v => bindName env x v] [.ref s.heap.objs.size]) _ _ _
  refine wpAny_bind (wpAny_holding (wpAny_bindName (I4.put y1 (.inl y2) how (r2.mono (fun _ _ _ p => p) (.of_le (keeps_le k24))) fun s5 m5 I5 hz => ?_)))
  show wpAny _ A (holding [] (bindName env x (.ref s.heap.objs.size)) >>= fun _ => pure ()) _ _ _
  obtain ⟨z, hz1, hz2⟩ := hz
  have hD4 : h'.get? s.heap.objs.size = some (lob #[] 0) := keeps_le k24 _ _ (keeps_le k2 _ _ hD1)
  have hzD : s.heap.objs.size ≠ z := fun q => by
    subst q
    rcases hz2 with hz2 | ⟨n', hz2⟩
    · obtain ⟨o, e, ne⟩ := ns_some I4.ns
      rw [← hz2, show ({ s2 with heap := h' } : Shared).heap.get? _ = _ from hD4] at e
      cases e; exact ne.1 _ _ rfl
    · obtain ⟨u, hu⟩ := I4.ce n' _ hz2
      obtain ⟨o, e, ne⟩ := cell_some hu
      rw [show ({ s2 with heap := h' } : Shared).heap.get? _ = _ from hD4] at e
      cases e; exact ne.1 _ _ rfl
  refine wpAny_bind (wpAny_holding (wpAny_bindName (I5.store x1 (.inl x2) ?_ fun s6 m6 I6 _ => wpAny_pure ⟨rfl, _, _, I6⟩)))
  rw [if_pos rfl]
  exact ⟨_, [], rfl, rfl, #[], 0, hz1.extBut _ _ hzD hD4, nD2, f3, f4, Nat.zero_le _, .nil, rfl⟩
end
end Mine
end

section
open PySem PyProof.Rows PySem.W
set_option Elab.async false
set_option linter.unusedVariables false
set_option linter.unusedSimpArgs false
namespace Mine
section
variable {S : Sys} {prog : Program} {w : World} {L : Nat} {Γ : Ctab} {cx : Cx} {ow : Nat} {env : Env} {P₀ F P : Addr → Prop} {s₀ s : Shared} {hF : Heap} {A : Around} {ρ : Env0} {m : Str → Option Value} {E : Value → Shared → Prop}

theorem rs_ite {t : ME} {a b : List MS} {o : Out} {G : Prop} (hr : rS Γ ow (.ite t a b) ρ = some o) (k1 : evP Γ ρ t = some (.bool true) → rL Γ ow a ρ = some o → G) (k2 : evP Γ ρ t = some (.bool false) → rL Γ ow b ρ = some o → G) : G := by
  have hr : (match evP Γ ρ t with | some (.bool true) => rL Γ ow a ρ | some (.bool false) => rL Γ ow b ρ | _ => none) = some o := hr
  cases ht : evP Γ ρ t with
  | none => rw [ht] at hr; cases hr
  | some x =>
    rw [ht] at hr
    cases x with
    | bool v => cases v with
      | true => exact k1 ht hr
      | false => exact k2 ht hr
    | _ => cases hr
theorem own_two {α : Type} {e : ME} {f : List PyData → PyData → Option α} {o : α} (hr : (match ownXs ρ ow, evP Γ ρ e with | some xs, some d => f xs d | _, _ => none) = some o) : ∃ xs d, ownXs ρ ow = some xs ∧ evP Γ ρ e = some d ∧ f xs d = some o := by
  cases h1 : ownXs ρ ow with
  | none => rw [h1] at hr; cases hr
  | some xs => cases h2 : evP Γ ρ e with
    | none => rw [h1, h2] at hr; cases hr
    | some d => rw [h1, h2] at hr; exact ⟨xs, d, rfl, rfl, hr⟩
theorem rs_push {e : ME} {o : Out} (hr : rS Γ ow (.push e) ρ = some o) : ∃ xs d, ownXs ρ ow = some xs ∧ evP Γ ρ e = some d ∧ (flat d = true ∧ xs.length < 1000000) ∧ o = .nxt (ρ.set ow (some (.dat (.list (xs ++ [d]))))) := by
  obtain ⟨xs, d, h1, h2, h3⟩ := own_two (f := fun xs d => if flat d = true ∧ xs.length < 1000000 then some (Out.nxt (ρ.set ow (some (.dat (.list (xs ++ [d])))))) else none) hr
  exact ⟨xs, d, h1, h2, some_if h3⟩
theorem rs_ext {e : ME} {o : Out} (hr : rS Γ ow (.ext e) ρ = some o) : ∃ xs d ys, ownXs ρ ow = some xs ∧ evP Γ ρ e = some d ∧ items d = some ys ∧ (flatAll ys = true ∧ xs.length + ys.length ≤ 1000000) ∧ o = .nxt (ρ.set ow (some (.dat (.list (xs ++ ys))))) := by
  obtain ⟨xs, d, h1, h2, h3⟩ := own_two (f := fun xs x => match items x with | some ys => if flatAll ys = true ∧ xs.length + ys.length ≤ 1000000 then some (Out.nxt (ρ.set ow (some (.dat (.list (xs ++ ys)))))) else none | none => none) hr
  cases hy : items d with
  | none => rw [hy] at h3; cases h3
  | some ys => rw [hy] at h3; exact ⟨xs, d, ys, h1, h2, hy, some_if h3⟩
theorem rs_setL {e : ME} {o : Out} (hr : rS Γ ow (.setL e) ρ = some o) : ∃ xs d, ownXs ρ ow = some xs ∧ evP Γ ρ e = some d ∧ (flat d = true ∧ xs ≠ []) ∧ o = .nxt (ρ.set ow (some (.dat (.list (xs.set (xs.length - 1) d))))) := by
  obtain ⟨xs, d, h1, h2, h3⟩ := own_two (f := fun xs d => if flat d = true ∧ xs ≠ [] then some (Out.nxt (ρ.set ow (some (.dat (.list (xs.set (xs.length - 1) d)))))) else none) hr
  exact ⟨xs, d, h1, h2, some_if h3⟩
theorem aug_inv {b : BO} {x y d : PyData} (h : augD b x y = some d) : ∃ i j, x = .int i ∧ y = .int j ∧ ((b = .add ∧ d = .int (i + j)) ∨ (b = .sub ∧ d = .int (i - j))) := by
  cases b with
  | add => cases x with
    | int i => cases y with
      | int j => cases h; exact ⟨i, j, rfl, rfl, .inl ⟨rfl, rfl⟩⟩
      | _ => cases h
    | _ => cases h
  | sub => cases x with
    | int i => cases y with
      | int j => cases h; exact ⟨i, j, rfl, rfl, .inr ⟨rfl, rfl⟩⟩
      | _ => cases h
    | _ => cases h
  | _ => cases h
theorem rs_aug {k : Nat} {b : BO} {e : ME} {o : Out} (hr : rS Γ ow (.aug k b e) ρ = some o) : k ≠ ow ∧ ∃ x y d, datAt ρ k = some x ∧ evP Γ ρ e = some y ∧ augD b x y = some d ∧ o = .nxt (ρ.set k (some (.dat d))) := by
  obtain ⟨hk, hr⟩ := none_if hr
  refine ⟨hk, ?_⟩
  have hr : (match datAt ρ k, evP Γ ρ e with | some x, some y => (match augD b x y with | some d => some (Out.nxt (ρ.set k (some (.dat d)))) | none => none) | _, _ => none) = some o := hr
  cases h1 : datAt ρ k with
  | none => rw [h1] at hr; cases hr
  | some x => cases h2 : evP Γ ρ e with
    | none => rw [h1, h2] at hr; cases hr
    | some y =>
      rw [h1, h2] at hr
      have hr : (match augD b x y with | some d => some (Out.nxt (ρ.set k (some (.dat d)))) | none => none) = some o := hr
      cases h3 : augD b x y with
      | none => rw [h3] at hr; cases hr
      | some d => rw [h3] at hr; cases hr; exact ⟨x, y, d, rfl, rfl, h3, rfl⟩

theorem x_ret {n nx : Nat} (hs : ∀ n, Sound S prog w L Γ n) {e : Expr} {me : ME} {pos : Pos} (hc : cE S.gt n nx cx e = some me) : XS S prog w L Γ cx ow (.Return (some e) pos) (.ret me) := by
  intro ρ o env P₀ s₀ F hF A s P m E hr I
  obtain ⟨d, hd, h2⟩ := map_some hr
  subst h2
  exact wpAny_Return_some (ev_full (hs n) I hc hd fun v s1 k1 I1 r1 => ⟨v, rfl, I1.k, r1⟩)

theorem x_ite {n nx : Nat} (hs : ∀ n, Sound S prog w L Γ n) {t : Expr} {a b : List Stmt} {mt : ME} {ma mb : List MS} {pos : Pos} (hc : cT S.gt n nx cx t = some mt) (ha : XL S prog w L Γ cx ow a ma) (hb : XL S prog w L Γ cx ow b mb) :
    XS S prog w L Γ cx ow (.If t a b pos) (.ite mt ma mb) := by
  intro ρ o env P₀ s₀ F hF A s P m E hr I
  refine wpAny_If (rs_ite hr (fun ht hr => ts_full (hs n) I hc ht fun s1 k1 I1 => ?_) fun ht hr => ts_full (hs n) I hc ht fun s1 k1 I1 => ?_)
  · exact ha ρ o env P₀ s₀ F hF A s1 _ m E hr I1
  · exact hb ρ o env P₀ s₀ F hF A s1 _ m E hr I1

theorem load_slot {x : Str} {v : Value} {Q : Value → Shared → Prop} (he : EnvOk cx env) (hn : s.heap.Ns env.locals m) (hv : Slot env s.heap m x v) (h : Q v s) : wpAny (model prog w) A (loadName env x) Q E s := by
  rcases hv with ⟨h1, h2⟩ | ⟨h1, c, h2, h3⟩
  · exact wpAny_loadName_local he.kind h1 hn h2 h
  · exact wpAny_loadName_cell he.kind h1 h2 h3 h

theorem x_aug {n nx k : Nat} (hs : ∀ n, Sound S prog w L Γ n) {x : Str} {px pos : Pos} {op : Operator} (q : IsOp op) {value : Expr} {e : ME} (hl : isLC cx x = true) (hx : slotOf cx.slots x = some k) (hc : cE S.gt n nx (cx.mask ow) value = some e) :
    XS S prog w L Γ cx ow (.AugAssign (.Name x px) op value pos) (.aug k q.b e) := by
  intro ρ o env P₀ s₀ F hF A s P m E hr I
  obtain ⟨how, dx, dy, d, hdx, hdy, hd, ho⟩ := rs_aug hr
  subst ho
  have hx' := slotOf_get hx
  obtain ⟨v, hv, hrv⟩ := I.sl k x _ how hx' (datAt_val hdx)
  refine wpAny_AugAssign_Name (load_slot I.e I.ns hv (ev_masked (hs n) I hc hdy fun u s1 k1 I1 r1 => ?_))
  have fin : ∀ z : Int, d = .int z → wpAny (model prog w) A (storeName env x (.int z s1.toks)) (fun _ => Post S L cx ow env P₀ s₀ F hF A (.nxt (ρ.set k (some (.dat d)))) .next) E { s1 with toks := s1.toks + 1 } := fun z hz => by
    subst hz
    exact (I1.same (keeps_tok s1 (s1.toks + 1))).put hx' (isLC_of hl) how (.int _ _) fun s' m' I' _ => ⟨rfl, _, _, I'⟩
  obtain ⟨i, j, e1, e2, h⟩ := aug_inv hd
  rw [e1] at hrv
  rw [e2] at r1
  obtain ⟨t1, e3⟩ := int_inv hrv
  obtain ⟨t2, e4⟩ := int_inv r1
  rw [e3, e4, q.h]
  rcases h with ⟨hb, hd⟩ | ⟨hb, hd⟩
  · rw [show q.b = .add from hb]
    exact AutoIntOps.iadd_0 (fin _ hd)
  · rw [show q.b = .sub from hb]
    exact AutoIntOps.isub_0 (fin _ hd)

/-- the own list in the frame -/
theorem own_at {x : Str} {xs : List PyData} (I : Inv S L cx ow env P₀ s₀ F hF A ρ s P m) (hx : slotOf cx.slots x = some ow) (ho : ownXs ρ ow = some xs) : cx.slots[ow]? = some (some x) ∧ valAt ρ ow = some (.dat (.list xs)) ∧ ∃ D, Slot env s.heap m x (.ref D) ∧ OwnAt s₀ F P s.heap D xs := by
  have hx' := slotOf_get hx
  have hv : valAt ρ ow = some (.dat (.list xs)) := by
    have ho : (match datAt ρ ow with | some (.list xs) => some xs | _ => none) = some xs := ho
    cases q : datAt ρ ow with
    | none => rw [q] at ho; cases ho
    | some d =>
      rw [q] at ho
      cases d with
      | list ys => cases ho; exact datAt_val q
      | _ => cases ho
  obtain ⟨D, ys, e, hsl, ha⟩ := I.so x _ hx' hv
  cases e
  exact ⟨hx', hv, D, hsl, ha⟩
theorem OwnAt.step {s1 : Shared} {D : Addr} {xs : List PyData} (I : Inv S L cx ow env P₀ s₀ F hF A ρ s P m) (k : Keeps s s1) (h : OwnAt s₀ F P s.heap D xs) : OwnAt s₀ F (Nxt P s s1) s1.heap D xs := by
  obtain ⟨vs, n, q2, q3, q4, q5, q6, q7, q8⟩ := h
  refine ⟨vs, n, keeps_le k _ _ q2, fun q => ?_, q4, q5, q6, q7.mono (fun a o e p => ⟨.inl p, o, keeps_le k _ _ e⟩) (.of_le (keeps_le k)), q8⟩
  rcases q.1 with q | q
  · exact q3 q
  · rw [q2] at q; cases q

theorem interactive_fn (he : EnvOk cx env) : interactive env = false := by unfold interactive; rw [he.kind]; rfl

theorem flatAll_append {xs ys : List PyData} (h1 : flatAll xs = true) (h2 : flatAll ys = true) : flatAll (xs ++ ys) = true := by
  induction xs with
  | nil => exact h2
  | cons x r ih => simp only [List.cons_append, flatAll, Bool.and_eq_true] at h1 ⊢; exact ⟨h1.1, ih h1.2⟩
theorem flatAll_set {xs : List PyData} {d : PyData} (h1 : flatAll xs = true) (h2 : flat d = true) (k : Nat) : flatAll (xs.set k d) = true := by
  induction xs generalizing k with
  | nil => exact h1
  | cons x r ih =>
    simp only [flatAll, Bool.and_eq_true] at h1
    cases k with
    | zero => simp [flatAll, h2, h1.2]
    | succ k => simp [flatAll, h1.1, ih h1.2 k]

/-- x.append(e) -/
theorem x_push {n nx : Nat} (hs : ∀ n, Sound S prog w L Γ n) {x : Str} {xp apos cpos pos : Pos} {e : Expr} {me : ME} (hx : slotOf cx.slots x = some ow) (hdbg : (x == ("__debug__" : Str)) = false) (hline : (apos.endLine == cpos.line) = true) (hc : cE S.gt n nx cx e = some me) :
    XS S prog w L Γ cx ow (.Expr (.Call (.Attribute (.Name x xp) (Str.ofString "append") apos) [e] [] cpos) pos) (.push me) := by
  intro ρ o env P₀ s₀ F hF A s P m E hr I
  obtain ⟨xs, d, hxs, hd, hfl, ho'⟩ := rs_push hr
  subst ho'
  obtain ⟨hx', hv, D, hsl, ho⟩ := own_at I hx hxs
  obtain ⟨vs, n0, q2, q3, q4, q5, q6, q7, q8⟩ := id ho
  have hns : noStar [e] = true := by rw [cE_star hc]; rfl
  refine wpAny_Expr ?_ (interactive_fn I.e) rfl
  rw [eval_meth _ _ _ _ _ _ _ hline hns (by simp)]
  refine wpAny_bind (wpAny_Name (load_slot I.e I.ns hsl (wpAny_bind (wpAny_standAt (wpAny_bind (wpAny_holding (meth_append q2 ?_)))))) hdbg)
  refine Calls.callWith_builtin (starEach_plain _ _ hns) (evalArgs_all hns ?_)
  refine wpAny_items_cons (ev_full (hs n) I hc hd fun v s1 k1 I1 r1 => wpAny_items_nil ?_) (starEach_cons hns).1
  have hvl := q7.length
  rw [Array.length_toList] at hvl
  have ho1 := ho.step I k1
  have hsl1 := hsl.keeps (keeps_le k1)
  obtain ⟨vs1, n1, p2, p3, p4, p5, p6, p7, p8⟩ := id ho1
  rw [keeps_le k1 _ _ q2] at p2
  cases p2
  refine call_append (keeps_le k1 _ _ q2) (by rw [sizeLine_eq]; omega) fun h' n' hD hsb => ?_
  exact ⟨rfl, _, _, I1.own (tk := s1.toks) hx' hv hsl1 ho1 hsb hD (by rw [Array.size_push]; omega) (by rw [Array.toList_push]; exact p7.append (.cons (Rd.flat r1 hfl.1) .nil)) (flatAll_append q8 (by simp [flatAll, hfl.1]))⟩

/-- x.extend(e) -/
theorem x_ext {n nx : Nat} (hs : ∀ n, Sound S prog w L Γ n) {x : Str} {xp apos cpos pos : Pos} {e : Expr} {me : ME} (hx : slotOf cx.slots x = some ow) (hdbg : (x == ("__debug__" : Str)) = false) (hline : (apos.endLine == cpos.line) = true) (hc : cE S.gt n nx (cx.mask ow) e = some me) :
    XS S prog w L Γ cx ow (.Expr (.Call (.Attribute (.Name x xp) (Str.ofString "extend") apos) [e] [] cpos) pos) (.ext me) := by
  intro ρ o env P₀ s₀ F hF A s P m E hr I
  obtain ⟨xs, d, ys, hxs, hd, hys, hfl, ho'⟩ := rs_ext hr
  subst ho'
  obtain ⟨hx', hv, D, hsl, ho⟩ := own_at I hx hxs
  obtain ⟨vs, n0, q2, q3, q4, q5, q6, q7, q8⟩ := id ho
  have hns : noStar [e] = true := by rw [cE_star hc]; rfl
  refine wpAny_Expr ?_ (interactive_fn I.e) rfl
  rw [eval_meth _ _ _ _ _ _ _ hline hns (by simp)]
  refine wpAny_bind (wpAny_Name (load_slot I.e I.ns hsl (wpAny_bind (wpAny_standAt (wpAny_bind (wpAny_holding (meth_extend q2 ?_)))))) hdbg)
  refine Calls.callWith_builtin (starEach_plain _ _ hns) (evalArgs_all hns ?_)
  refine wpAny_items_cons (ev_masked (hs n) I hc hd fun v s1 k1 I1 r1 => wpAny_items_nil ?_) (starEach_cons hns).1
  have hvl := q7.length
  rw [Array.length_toList] at hvl
  have ho1 := ho.step I k1
  have hsl1 := hsl.keeps (keeps_le k1)
  obtain ⟨vs1, n1, p2, p3, p4, p5, p6, p7, p8⟩ := id ho1
  rw [keeps_le k1 _ _ q2] at p2
  cases p2
  cases d with
  | list ds =>
    cases hys
    obtain ⟨b, us, n2, ev, pb, eb, sb, rb⟩ := list_inv r1
    have hul := rb.length
    rw [Array.length_toList] at hul
    rw [ev]
    refine call_extend_list (keeps_le k1 _ _ q2) eb (by rw [sizeLine_eq]; omega) fun h' n' hD hsb => ?_
    exact ⟨rfl, _, _, I1.own (tk := s1.toks) hx' hv hsl1 ho1 hsb hD (by rw [Array.size_append]; omega) (by rw [Array.toList_append]; exact p7.append rb) (flatAll_append q8 hfl.1)⟩
  | tuple ds =>
    cases hys
    obtain ⟨b, us, n2, ev, eb, sb, rb⟩ := tup_inv r1
    have hul := rb.length
    rw [Array.length_toList] at hul
    rw [ev]
    refine call_extend_tup (keeps_le k1 _ _ q2) eb (by rw [sizeLine_eq]; omega) fun h' n' hD hsb => ?_
    exact ⟨rfl, _, _, I1.own (tk := s1.toks) hx' hv hsl1 ho1 hsb hD (by rw [Array.size_append]; omega) (by rw [Array.toList_append]; exact p7.append rb) (flatAll_append q8 hfl.1)⟩
  | _ => cases hys

/-- x[-1] = e -/
theorem x_setL {n nx j : Nat} (hs : ∀ n, Sound S prog w L Γ n) {x : Str} {xp ip jp spos pos : Pos} {value : Expr} {me : ME} (hx : slotOf cx.slots x = some ow) (hdbg : (x == ("__debug__" : Str)) = false) (hc : cE S.gt n nx cx value = some me) :
    XS S prog w L Γ cx ow (.Assign [.Subscript (.Name x xp) (.UnaryOp .USub (.Constant (.int 1) j ip) jp) spos] value pos) (.setL me) := by
  intro ρ o env P₀ s₀ F hF A s P m E hr I
  obtain ⟨xs, d, hxs, hd, hfl, ho'⟩ := rs_setL hr
  subst ho'
  obtain ⟨hx', hv, D, hsl, ho⟩ := own_at I hx hxs
  obtain ⟨vs, n0, q2, q3, q4, q5, q6, q7, q8⟩ := id ho
  have hsw : swapsWith value (some (.Subscript (.Name x xp) (.UnaryOp .USub (.Constant (.int 1) j ip) jp) spos)) pos.line env = pure false := by cases value <;> rfl
  refine wpAny_Assign_Subscript (ev_full (hs n) I hc hd fun v s1 k1 I1 r1 => ?_) hsw
  have hsl1 := hsl.keeps (keeps_le k1)
  refine wpAny_Name (load_slot I1.e I1.ns hsl1 ?_) hdbg
  refine (r_neg (P := P) (ev_int 1 _ _)).bind fun i s2 k2 r2 => ?_
  obtain ⟨t2, e2⟩ := int_inv r2
  rw [e2]
  have k12 := keeps_trans k1 k2
  have I2 := I.step k12
  have ho2 := ho.step I k12
  have hsl2 := hsl.keeps (keeps_le k12)
  have hvl := q7.length
  rw [Array.length_toList] at hvl
  obtain ⟨vs1, n1, p2, p3, p4, p5, p6, p7, p8⟩ := id ho2
  rw [keeps_le k12 _ _ q2] at p2
  cases p2
  have hpos : 0 < xs.length := List.length_pos_iff.mpr hfl.2
  refine setItem_neg (keeps_le k12 _ _ q2) (by omega) (by omega) (by decide) fun h' hD hsb => ?_
  refine ⟨rfl, _, _, I2.own (tk := s2.toks) hx' hv hsl2 ho2 hsb hD (by simp; omega) ?_ (flatAll_set q8 hfl.1 _)⟩
  have e1 : (-1 + (vs.size : Int)).toNat = xs.length - 1 := by omega
  rw [e1, Array.toList_setIfInBounds]
  exact p7.set (Rd.flat (r1.mono (fun _ _ _ p => p) (.of_le (keeps_le k2))) hfl.1) _
end
end Mine
end

section
open PySem PyProof.Rows PySem.W
set_option Elab.async false
set_option linter.unusedVariables false
set_option linter.unusedSimpArgs false
namespace Mine
section
variable {S : Sys} {prog : Program} {w : World} {L : Nat} {Γ : Ctab} {cx : Cx} {ow : Nat} {env : Env} {P₀ F P : Addr → Prop} {s₀ s : Shared} {hF : Heap} {A : Around} {ρ : Env0} {m : Str → Option Value} {E : Value → Shared → Prop}

theorem slot_det {h : Heap} {x : Str} {v v' : Value} (a : Slot env h m x v) (b : Slot env h m x v') : v = v' := by
  rcases a with ⟨h1, h2⟩ | ⟨h1, c, h2, h3⟩ <;> rcases b with ⟨g1, g2⟩ | ⟨g1, c', g2, g3⟩
  · rw [h2] at g2; cases g2; rfl
  · rw [h1] at g1; cases g1
  · rw [h1] at g1; cases g1
  · rw [h2] at g2; cases g2
    obtain ⟨o, e, d⟩ := h3
    obtain ⟨o', e', d'⟩ := g3
    rw [e] at e'; cases e'; rw [d] at d'; cases d'; rfl

theorem boolD_inv {x : Option PyData} {b : Bool} (h : boolD x = some b) : x = some (.bool b) := by
  cases x with
  | none => cases h
  | some d => cases d with
    | bool c => cases h; rfl
    | _ => cases h
theorem whl_inv {test : Env0 → Option Bool} {body : Env0 → Option Out} {k : Nat} {o : Out} {G : Prop} (h : whlGo test body (k + 1) ρ = some o) (k1 : ∀ ρ', test ρ = some true → body ρ = some (.nxt ρ') → whlGo test body k ρ' = some o → G) (k2 : ∀ d, test ρ = some true → body ρ = some (.ret d) → o = .ret d → G) (k3 : test ρ = some false → o = .nxt ρ → G) : G := by
  have h : (match test ρ with | some true => (match body ρ with | some (.nxt ρ') => whlGo test body k ρ' | some (.ret d) => some (.ret d) | none => none) | some false => some (.nxt ρ) | none => none) = some o := h
  cases ht : test ρ with
  | none => rw [ht] at h; cases h
  | some b =>
    rw [ht] at h
    cases b with
    | false => cases h; exact k3 ht rfl
    | true =>
      have h : (match body ρ with | some (.nxt ρ') => whlGo test body k ρ' | some (.ret d) => some (.ret d) | none => none) = some o := h
      cases hb : body ρ with
      | none => rw [hb] at h; cases h
      | some x =>
        rw [hb] at h
        cases x with
        | nxt ρ' => exact k1 ρ' ht hb h
        | ret d => cases h; exact k2 d ht hb rfl
theorem post_ret {d : PyData} {f : Flow} {s' : Shared} (h : Post S L cx ow env P₀ s₀ F hF A (.ret d) f s') {F' : Addr → Prop} {hF' : Heap} : Post S L cx ow env P₀ s₀ F' hF' A (.ret d) f s' := h
theorem x_whl {n nx : Nat} (hs : ∀ n, Sound S prog w L Γ n) {t : Expr} {b : List Stmt} {mt : ME} {mb : List MS} {pos : Pos} (hc : cT S.gt n nx cx t = some mt) (hb : XL S prog w L Γ cx ow b mb) :
    XS S prog w L Γ cx ow (.While t b [] pos) (.whl mt mb) := by
  intro ρ o env P₀ s₀ F hF A s P m E hr I
  refine wpAny_While (codeAny_whileLoop (fun k s' => ∃ ρ' P' m', whlGo (fun ρ => boolD (evP Γ ρ mt)) (fun ρ => rL Γ ow mb ρ) k ρ' = some o ∧ Inv S L cx ow env P₀ s₀ F hF A ρ' s' P' m') ?_ 1000 ⟨ρ, P, m, hr, I⟩)
  rintro k s' ⟨ρ', P', m', hg, I'⟩
  cases k with
  | zero => cases hg
  | succ k =>
    refine whl_inv hg (fun ρ2 ht h2 hg => ?_) (fun d ht h2 ho => ?_) fun ht ho => ?_
    · refine ts_full (hs n) I' hc (boolD_inv ht) fun s1 k1 I1 => ?_
      refine wpAny_mono (hb ρ' _ env P₀ s₀ F hF A s1 _ m' _ h2 I1) (fun f s2 hp => ?_) fun _ _ x => x
      obtain ⟨hf, P2, m2, I2⟩ := hp
      rw [hf]
      exact ⟨k, Nat.lt_succ_self _, ρ2, P2, m2, hg, I2⟩
    · refine ts_full (hs n) I' hc (boolD_inv ht) fun s1 k1 I1 => ?_
      rw [ho]
      refine wpAny_mono (hb ρ' _ env P₀ s₀ F hF A s1 _ m' _ h2 I1) (fun f s2 hp => ?_) fun _ _ x => x
      obtain ⟨v, hf, hk, hv⟩ := hp
      rw [hf]
      exact ⟨v, rfl, hk, hv⟩
    · refine ts_full (hs n) I' hc (boolD_inv ht) fun s1 k1 I1 => ?_
      rw [ho]
      exact wpAny_execs_nil ⟨rfl, _, _, I1⟩

theorem rs_for1 {k : Nat} {src : ME} {body : List MS} {o : Out} (hr : rS Γ ow (.for1 k src body) ρ = some o) : k ≠ ow ∧ ∃ x xs, evP Γ ρ src = some x ∧ items x = some xs ∧ forGo (fun d ρ => rL Γ ow body (ρ.set k (some (.dat d)))) xs ρ = some o := by
  obtain ⟨hk, hr⟩ := none_if hr
  refine ⟨hk, ?_⟩
  have hr : (match evP Γ ρ src with | some x => (match items x with | some xs => forGo (fun d ρ => rL Γ ow body (ρ.set k (some (.dat d)))) xs ρ | none => none) | none => none) = some o := hr
  cases h1 : evP Γ ρ src with
  | none => rw [h1] at hr; cases hr
  | some x =>
    rw [h1] at hr
    have hr : (match items x with | some xs => forGo (fun d ρ => rL Γ ow body (ρ.set k (some (.dat d)))) xs ρ | none => none) = some o := hr
    cases h2 : items x with
    | none => rw [h2] at hr; cases hr
    | some xs => rw [h2] at hr; exact ⟨x, xs, rfl, h2, hr⟩
theorem forGo_cons {body : PyData → Env0 → Option Out} {d : PyData} {r : List PyData} {o : Out} {G : Prop} (h : forGo body (d :: r) ρ = some o) (k1 : ∀ ρ', body d ρ = some (.nxt ρ') → forGo body r ρ' = some o → G) (k2 : ∀ e, body d ρ = some (.ret e) → o = .ret e → G) : G := by
  have h : (match body d ρ with | some (.nxt ρ') => forGo body r ρ' | some (.ret d) => some (.ret d) | none => none) = some o := h
  cases hb : body d ρ with
  | none => rw [hb] at h; cases h
  | some x =>
    rw [hb] at h
    cases x with
    | nxt ρ' => exact k1 ρ' hb h
    | ret d => cases h; exact k2 d hb rfl

theorem x_for {n nx k : Nat} (hs : ∀ n, Sound S prog w L Γ n) {x : Str} {px pos : Pos} {iter : Expr} {b : List Stmt} {me : ME} {mb : List MS} (hl : isLC cx x = true) (hns : notSet iter = true) (hx : slotOf cx.slots x = some k)
    (hc : cSrc S.gt n nx (cx.mask ow) iter = some me) (hb : XL S prog w L Γ cx ow b mb) : XS S prog w L Γ cx ow (.For (.Name x px) iter b [] pos) (.for1 k me mb) := by
  intro ρ o env P₀ s₀ F hF A s P m E hr I
  obtain ⟨how, dx, xs, hdx, hxs, hr⟩ := rs_for1 hr
  have hx' := slotOf_get hx
  refine wpAny_For ((hs n).s _ _ _ _ hc ρ dx xs env P s A hdx hxs I.ctxM _ _ fun v s₁ k1 hit hlen => hit _ _ fun s₂ It fp Pi St k2 hI0 hlive W hst hfp hPi => ?_) (folded_notSet hns env)
  have le1 := keeps_le k1
  have le2 := keeps_le k2
  -- what stands ahead of the loop
  let G : Addr → Prop := fun a => (Up P s a ∨ ∃ vs n, s₁.heap.get? a = some (tob vs n)) ∧ ∃ o, s₁.heap.get? a = some o
  let F2 : Addr → Prop := fun a => F a ∨ G a ∨ a ∈ fp
  have nG : ∀ a o, s.heap.get? a = some o → ¬ P a → NotSeq o → ¬ G a := fun a o e hp hn h => by
    rcases h.1 with h | ⟨vs, n, h⟩
    · rcases h with h | h
      · exact hp h
      · rw [e] at h; cases h
    · rw [le1 _ _ e] at h; cases h; exact hn.2 _ _ rfl
  have nIt : ∀ a o, s.heap.get? a = some o → a ≠ It := fun a o e q => by rw [← q, le1 _ _ e] at hI0; cases hI0
  have nfp : ∀ a o, s.heap.get? a = some o → ¬ G a → a ∉ fp := fun a o e hg hm => by
    rcases hfp a hm with q | ⟨o', e', q⟩
    · exact nIt a o e q
    · refine hg ⟨?_, o', e'⟩
      rcases q with q | ⟨vs, n, q⟩
      · exact .inl q
      · exact .inr ⟨vs, n, by rw [e', q]⟩
  have nF2 : ∀ a o, s.heap.get? a = some o → ¬ F a → ¬ P a → NotSeq o → ¬ F2 a := fun a o e hf hp hn h => by
    have hg := nG a o e hp hn
    rcases h with h | h | h
    · exact hf h
    · exact hg h
    · exact nfp a o e hg h
  have fl2 : ¬ F2 env.locals := by obtain ⟨o, e, ne⟩ := ns_some I.ns; exact nF2 _ o e I.fl I.pl ne
  have fc2 : ∀ (n : Str) (c : Addr), env.cells.lookup n = some c → ¬ F2 c := fun n c h => by obtain ⟨u, hu⟩ := I.ce n c h; obtain ⟨o, e, ne⟩ := cell_some hu; exact nF2 _ o e (I.fc n c h) (I.pc n c h) ne
  have hI0s : s₀.heap.get? It = none := by
    cases q : s₀.heap.get? It with
    | none => rfl
    | some o => exact absurd rfl (nIt It o (keeps_le I.k _ _ q))
  -- the first heap of the loop
  have I2 : Inv S L cx ow env P₀ s₀ F2 s₂.heap A ρ s₂ P m := by
    refine (I.same (keeps_trans k1 k2)).rebase (fun a h => ?_) (fun a o _ e => e) fl2 fc2 fun D hD h => ?_
    · rcases h with h | h | h
      · obtain ⟨o, e⟩ := I.fa a h; exact ⟨o, le2 _ _ (le1 _ _ (I.fk a o h e))⟩
      · obtain ⟨o, e⟩ := h.2; exact ⟨o, le2 _ _ e⟩
      · rcases hfp a h with q | ⟨o, e, _⟩
        · obtain ⟨o, e, _⟩ := hlive _ _ hst; exact ⟨o, q ▸ e⟩
        · exact ⟨o, le2 _ _ e⟩
    · obtain ⟨x', xs', e1, e2, hsl, _⟩ := hD
      obtain ⟨D0, ys, e3, hsl0, vs, n', q2, q3, q4, q5, q6, q7, q8⟩ := I.so x' _ e1 e2
      have := slot_det (hsl0.keeps (Le.trans le1 le2)) hsl
      cases this
      have hg : ¬ G D := fun h => by
        rcases h.1 with h | ⟨vs, n, h⟩
        · rcases h with h | h
          · exact q3 h
          · rw [q2] at h; cases h
        · rw [le1 _ _ q2] at h; simp at h
      rcases h with h | h | h
      · exact q5 h
      · exact hg h
      · exact nfp D _ q2 hg h
  refine codeAny_forLoop (fun n s' => ∃ i ρ' P' m', i ≤ xs.length ∧ n = xs.length + 1 - i ∧ forGo (fun d ρ => rL Γ ow mb (ρ.set k (some (.dat d)))) (xs.drop i) ρ' = some o ∧ St i s'.heap ∧ Inv S L cx ow env P₀ s₀ F2 s'.heap A ρ' s' P' m' ∧
    (∀ a o, F a → hF.get? a = some o → s'.heap.get? a = some o) ∧ (∀ a o, G a → s₁.heap.get? a = some o → s'.heap.get? a = some o)) ?_ (xs.length + 1)
    ⟨0, ρ, P, m, Nat.zero_le _, rfl, by simpa using hr, hst, I2, fun a o h e => le2 _ _ (le1 _ _ (I.fk a o h e)), fun a o _ e => le2 _ _ e⟩
  intro n' s' hJ
  refine hide fun X back => ?_
  obtain ⟨i, ρ', P', m', hi, hnn, hgo, hst', I', hkF, hkG⟩ := hJ
  -- the iterator's own address is let go
  have I'' := I'.shrink (P' := fun a => P' a ∧ a ≠ It) (fun a h => h.1) fun a o e hq p => ⟨p, fun q => by
    obtain ⟨oI, eI, tI⟩ := hlive _ _ hst'
    rw [q, eI] at e; cases e
    exact tI.not hq⟩
  have itl : It ≠ env.locals := fun q => by obtain ⟨o, e, _⟩ := ns_some I.ns; exact nIt _ o e q.symm
  have itc : ∀ (n : Str) (c : Addr), env.cells.lookup n = some c → It ≠ c := fun n c h q => by obtain ⟨u, hu⟩ := I.ce n c h; obtain ⟨o, e, _⟩ := cell_some hu; exact nIt _ o e q.symm
  have itF : ∀ a o, F a → hF.get? a = some o → a ≠ It := fun a o h e => nIt a o (I.fk a o h e)
  have itG : ∀ a, G a → a ≠ It := fun a h q => by obtain ⟨o, e⟩ := h.2; rw [q, hI0] at e; cases e
  have turned : ∀ (j : Nat) (h₁ : Heap) (tk : Nat), St j h₁ → (∀ b o, b ∉ [It] → s'.heap.get? b = some o → h₁.get? b = some o) → Inv S L cx ow env P₀ s₀ F2 h₁ A ρ' { s' with heap := h₁, toks := tk } (fun a => P' a ∧ a ≠ It) m' := by
    intro j h₁ tk hst₁ hk₁
    refine I''.change (z := It) (fun a o hne e => hk₁ a o (by simpa using hne) e) hI0s (fun h => h.2 rfl) (fun o e => ?_) itl itc (fun a h => ?_) (fun a o _ e => e) fl2 fc2 fun D hD h => ?_
    · obtain ⟨oI, eI, tI⟩ := hlive _ _ hst'
      rw [eI] at e; cases e; exact tI.ns
    · by_cases hq : a = It
      · obtain ⟨oI, eI, tI⟩ := hlive _ _ hst₁
        exact ⟨oI, hq ▸ eI⟩
      · obtain ⟨o, e⟩ := I'.fa a h
        exact ⟨o, hk₁ a o (by simpa using hq) e⟩
    · obtain ⟨_, _, _, _, _, vs, n, q2, q3, q4, q5, _⟩ := hD
      exact q5 h
  refine back ?_
  clear back
  subst hnn
  by_cases hlt : i < xs.length
  · refine W.item i s' _ _ hlt hst' fun v h₁ tk hPv hst₁ hk₁ => ?_
    obtain ⟨d, hd, hrd⟩ := hPi i v hPv
    have hdrop : xs.drop i = d :: xs.drop (i + 1) := by
      rw [List.drop_eq_getElem_cons hlt]
      rw [List.getElem?_eq_getElem hlt] at hd
      cases hd; rfl
    rw [hdrop] at hgo
    have I1 := turned (i + 1) h₁ tk hst₁ hk₁
    have keepG : ∀ a o, G a → s₁.heap.get? a = some o → h₁.get? a = some o := fun a o h e => hk₁ a o (by simpa using itG a h) (hkG a o h e)
    have I3 := I1.more (P' := fun a => Up P s a ∧ ∃ o, s₁.heap.get? a = some o) (fun a h => (I.step k1).pu a h) (fun a h => by obtain ⟨o, e⟩ := h.2; exact ⟨o, keepG a o ⟨.inl h.1, h.2⟩ e⟩) (I.step k1).pl (I.step k1).pc (fun D hD h => by
      obtain ⟨_, _, _, _, _, vs, n, q2, q3, q4, q5, _⟩ := hD
      exact q5 (.inr (.inl ⟨.inl h.1, h.2⟩)))
    have rv : Rd (fun a => (P' a ∧ a ≠ It) ∨ Up P s a ∧ ∃ o, s₁.heap.get? a = some o) h₁ v d := hrd.mono (fun a o e p => .inr ⟨p, o, e⟩) fun a o e h => keepG a o ⟨h.imp id fun ⟨vs, n, q⟩ => ⟨vs, n, by rw [e, q]⟩, o, e⟩ e
    refine wpAny_assign_Name (I3.put hx' (isLC_of hl) how rv fun s3 m3 I4 _ => ?_)
    refine forGo_cons hgo (fun ρ2 h2 hgo => ?_) fun d' h2 ho => ?_
    · refine wpAny_mono (hb _ _ env P₀ s₀ F2 h₁ A s3 _ m3 _ h2 I4) (fun f s4 hp => ?_) fun _ _ x => x
      obtain ⟨hf, P5, m5, I5⟩ := hp
      rw [hf]
      refine ⟨xs.length + 1 - (i + 1), by omega, i + 1, ρ2, P5, m5, hlt, rfl, hgo, W.frame _ _ _ hst₁ fun b hb o e => I5.fk b o (.inr (.inr hb)) e, ?_, fun a o h e => I5.fk a o (.inl h) (hk₁ a o (by simpa using itF a o h e) (hkF a o h e)), fun a o h e => I5.fk a o (.inr (.inl h)) (keepG a o h e)⟩
      exact I5.rebase (fun a h => by obtain ⟨o, e⟩ := I5.fa a h; exact ⟨o, I5.fk a o h e⟩) (fun a o _ e => e) fl2 fc2 fun D hD h => by
        obtain ⟨_, _, _, _, _, vs, n, q2, q3, q4, q5, _⟩ := hD
        exact q5 h
    · rw [ho]
      refine wpAny_mono (hb _ _ env P₀ s₀ F2 h₁ A s3 _ m3 _ h2 I4) (fun f s4 hp => ?_) fun _ _ x => x
      obtain ⟨v, hf, hk, hv⟩ := hp
      rw [hf]
      exact ⟨v, rfl, hk, hv⟩
  · have hin : i = xs.length := by omega
    subst hin
    refine W.done s' _ _ hst' fun h₁ tk hk₁ => ?_
    rw [List.drop_length] at hgo
    cases hgo
    refine wpAny_execs_nil ⟨rfl, fun a => P' a ∧ a ≠ It, m', ?_⟩
    refine I''.change (z := It) (fun a o hne e => hk₁ a o (by simpa using hne) e) hI0s (fun h => h.2 rfl) (fun o e => ?_) itl itc I.fa (fun a o h e => hk₁ a o (by simpa using itF a o h e) (hkF a o h e)) I.fl I.fc fun D hD h => ?_
    · obtain ⟨oI, eI, tI⟩ := hlive _ _ hst'
      rw [eI] at e; cases e; exact tI.ns
    · obtain ⟨_, _, _, _, _, vs, n, q2, q3, q4, q5, _⟩ := hD
      exact q5 (.inl h)
end
end Mine
end

section
open PySem PyProof.Rows PySem.W
set_option Elab.async false
set_option linter.unusedVariables false
set_option linter.unusedSimpArgs false
namespace Mine

/-- an iterator's object, or a pair whose first is a list -/
noncomputable def ZO (h : Heap) (o : Obj) : Prop := ItO o ∨ ∃ l u vs n k, o = tob #[.ref l, u] k ∧ h.get? l = some (lob vs n)
theorem ZO.not {h : Heap} {o : Obj} (z : ZO h o) : ¬ ((∃ vs n, o = lob vs n) ∨ (∃ C d, o = instObj C d) ∨ ∃ es n, o = dictOf es n) := by
  rcases z with z | ⟨l, u, vs, n, k, rfl, _⟩
  · exact z.not
  · rintro (⟨vs, n, e⟩ | ⟨C, d, e⟩ | ⟨es, n, e⟩) <;> simp at e

section
variable {Z : Addr → Prop} {h h' : Heap}
mutual
theorem Rd.zflat {P : Addr → Prop} (hs : ∀ a o, ¬ Z a → h.get? a = some o → h'.get? a = some o) (hz : ∀ a o, Z a → h.get? a = some o → ZO h o) : ∀ {v : Value} {d : PyData}, Rd P h v d → Mine.flat d = true → Rd P h' v d
  | _, _, .none, _ => .none
  | _, _, .bool b, _ => .bool b
  | _, _, .int i t, _ => .int i t
  | _, _, .list _ _ _ _, e => by simp [Mine.flat] at e
  | _, _, @Rd.tuple _ _ a vs n ds e z r, f => by
    by_cases ha : Z a
    · exfalso
      have f' : flatAll ds = true := by simpa [Mine.flat] using f
      rcases hz a _ ha e with q | ⟨l, u, ws, m, k, q, hl⟩
      · exact q.ns.2 _ _ rfl
      · have hv : vs = #[.ref l, u] := by
          have := congrArg Obj.data q
          simp at this
          exact this.1
        subst hv
        cases r with
        | @cons v vs d ds r rs =>
          have f2 : Mine.flat d = true ∧ flatAll ds = true := by simpa [flatAll] using f'
          cases r with
          | list _ _ _ _ => simp [Mine.flat] at f2
          | tuple e2 _ _ => rw [hl] at e2; simp at e2
    · exact .tuple (hs _ _ ha e) z (RdAll.zflat hs hz r (by simpa [Mine.flat] using f))
theorem RdAll.zflat {P : Addr → Prop} (hs : ∀ a o, ¬ Z a → h.get? a = some o → h'.get? a = some o) (hz : ∀ a o, Z a → h.get? a = some o → ZO h o) : ∀ {vs : List Value} {ds : List PyData}, RdAll P h vs ds → flatAll ds = true → RdAll P h' vs ds
  | _, _, .nil, _ => .nil
  | _, _, .cons (d := d) (ds := ds) r s, f => by
    have f' : Mine.flat d = true ∧ flatAll ds = true := by simpa [flatAll] using f
    exact .cons (Rd.zflat hs hz r f'.1) (RdAll.zflat hs hz s f'.2)
end
mutual
theorem Rd.zok {P : Addr → Prop} (hs : ∀ a o, ¬ Z a → h.get? a = some o → h'.get? a = some o) (hz : ∀ a o, Z a → h.get? a = some o → ZO h o) : ∀ {v : Value} {d : PyData}, Rd P h v d → okT d = true → Rd P h' v d
  | _, _, .none, _ => .none
  | _, _, .bool b, _ => .bool b
  | _, _, .int i t, _ => .int i t
  | _, _, @Rd.list _ _ a vs n ds p e z r, f => by
    have ha : ¬ Z a := fun ha => (hz a _ ha e).not (.inl ⟨_, _, rfl⟩)
    exact .list p (hs _ _ ha e) z (RdAll.zok hs hz r (by simpa [okT] using f))
  | _, _, .tuple e z r, f => Rd.zflat hs hz (.tuple e z r) (by simpa [okT, Mine.flat] using f)
theorem RdAll.zok {P : Addr → Prop} (hs : ∀ a o, ¬ Z a → h.get? a = some o → h'.get? a = some o) (hz : ∀ a o, Z a → h.get? a = some o → ZO h o) : ∀ {vs : List Value} {ds : List PyData}, RdAll P h vs ds → okTs ds = true → RdAll P h' vs ds
  | _, _, .nil, _ => .nil
  | _, _, .cons (d := d) (ds := ds) r s, f => by
    have f' : okT d = true ∧ okTs ds = true := by simpa [okTs] using f
    exact .cons (Rd.zok hs hz r f'.1) (RdAll.zok hs hz s f'.2)
end
theorem Rep.zok {S : Sys} {P : Addr → Prop} (hs : ∀ a o, ¬ Z a → h.get? a = some o → h'.get? a = some o) (hz : ∀ a o, Z a → h.get? a = some o → ZO h o) {v : Value} {X : V} (r : Rep S P h v X) (f : okV X = true) : Rep S P h' v X := by
  cases X with
  | dat d => exact Rd.zok hs hz r f
  | tab w m j =>
    obtain ⟨x, dx, vw, vm, vj, n, h1, h2, h3, t1, t2, t3, rfl, px, pd, ex, ed, rw, rm, rj⟩ := r
    simp only [okV, Bool.and_eq_true] at f
    have nx : ¬ Z x := fun ha => (hz x _ ha ex).not (.inr (.inl ⟨_, _, rfl⟩))
    have nd : ¬ Z dx := fun ha => (hz dx _ ha ed).not (.inr (.inr ⟨_, _, rfl⟩))
    exact ⟨x, dx, vw, vm, vj, n, h1, h2, h3, t1, t2, t3, rfl, px, pd, hs _ _ nx ex, hs _ _ nd ed, rw.zok hs hz f.1.1, rm.zok hs hz f.1.2, rj.zok hs hz f.2⟩
end

section
variable {S : Sys} {prog : Program} {w : World} {L : Nat} {Γ : Ctab} {cx : Cx} {ow : Nat} {env : Env} {P₀ F P : Addr → Prop} {s₀ s : Shared} {hF : Heap} {A : Around} {ρ : Env0} {m : Str → Option Value} {E : Value → Shared → Prop}

theorem okEnv_at (h : okEnv ρ = true) {k : Nat} {X : V} (e : valAt ρ k = some X) : okV X = true := by
  have e : (match ρ[k]? with | some (some v) => some v | _ => none) = some X := e
  cases hv : ρ[k]? with
  | none => rw [hv] at e; cases e
  | some u =>
    rw [hv] at e
    cases u with
    | none => cases e
    | some v => cases e; exact List.all_eq_true.mp h _ (List.mem_of_getElem? hv)
theorem forGoT_ok {body : List PyData → Env0 → Option Out} {o : Out} : ∀ {l : List (List PyData)}, forGoT body l ρ = some o → okEnv ρ = true := fun {l} h => by
  cases q : okEnv ρ with
  | true => rfl
  | false =>
    cases l with
    | nil => cases (if_neg (ne_true_of_eq_false q)).symm.trans h
    | cons a r => cases (if_neg (ne_true_of_eq_false q)).symm.trans h
theorem forGoT_cons {body : List PyData → Env0 → Option Out} {d : List PyData} {r : List (List PyData)} {o : Out} {G : Prop} (h : forGoT body (d :: r) ρ = some o) (k1 : ∀ ρ', body d ρ = some (.nxt ρ') → forGoT body r ρ' = some o → G) (k2 : ∀ e, body d ρ = some (.ret e) → o = .ret e → G) : G := by
  have h := (if_pos (forGoT_ok h)).symm.trans h
  have h : (match body d ρ with | some (.nxt ρ') => forGoT body r ρ' | some (.ret d) => some (.ret d) | none => none) = some o := h
  cases hb : body d ρ with
  | none => rw [hb] at h; cases h
  | some x =>
    rw [hb] at h
    cases x with
    | nxt ρ' => exact k1 ρ' hb h
    | ret d => cases h; exact k2 d hb rfl

/-- the iterators' parts turn -/
theorem Inv.changeZ {Z : Addr → Prop} {h' : Heap} {tk : Nat} {F2 : Addr → Prop} {hF2 : Heap} (I : Inv S L cx ow env P₀ s₀ F hF A ρ s P m) (hs : ∀ a o, ¬ Z a → s.heap.get? a = some o → h'.get? a = some o) (hz : ∀ a o, Z a → s.heap.get? a = some o → ZO s.heap o)
    (hok : okEnv ρ = true) (hz0 : ∀ a, Z a → s₀.heap.get? a = none) (hzl : ¬ Z env.locals) (hzc : ∀ (n : Str) (c : Addr), env.cells.lookup n = some c → ¬ Z c) (fa2 : ∀ a, F2 a → ∃ o, hF2.get? a = some o) (fk2 : ∀ a o, F2 a → hF2.get? a = some o → h'.get? a = some o)
    (fl2 : ¬ F2 env.locals) (fc2 : ∀ (n : Str) (c : Addr), env.cells.lookup n = some c → ¬ F2 c) (fo2 : ∀ D, IsOwn cx ow env s₀ F P ρ s.heap m D → ¬ F2 D) (hzP : ∀ a, P a → ¬ Z a) :
    Inv S L cx ow env P₀ s₀ F2 hF2 A ρ { s with heap := h', toks := tk } P m := by
  have mS : ∀ {y u}, Slot env s.heap m y u → Slot env h' m y u := fun hu => by
    rcases hu with ⟨h1, h2⟩ | ⟨h1, c, h2, h3⟩
    · exact .inl ⟨h1, h2⟩
    · refine .inr ⟨h1, c, h2, ?_⟩
      obtain ⟨o, ho, hd⟩ := h3
      exact ⟨o, hs _ _ (hzc _ c h2) ho, hd⟩
  refine ⟨I.e, ?_, I.b, I.r, I.nd, I.lf, I.cf, I.ap, fa2, fk2, fl2, fc2, I.pu, fun a h => ?_, I.pl, I.pc, I.ns.at' fun o e => hs _ o hzl e, fun n c h => ?_, fun k x X hk e1 e2 => ?_, fun x X e1 e2 => ?_, fun y u hy => ⟨mS (I.pin y u hy).1, (I.pin y u hy).2⟩⟩
  · obtain ⟨h1, t1, rfl, k1⟩ := I.k
    exact ⟨h', tk, rfl, fun a o e => hs a o (fun q => by rw [hz0 a q] at e; cases e) (k1 a o e)⟩
  · obtain ⟨o, e⟩ := I.pa a h
    exact ⟨o, hs a o (hzP a h) e⟩
  · obtain ⟨u, o, ho, hd⟩ := I.ce n c h
    exact ⟨u, o, hs _ _ (hzc n c h) ho, hd⟩
  · obtain ⟨v, hv, hr⟩ := I.sl k x X hk e1 e2
    exact ⟨v, mS hv, hr.zok hs hz (okEnv_at hok e2)⟩
  · obtain ⟨D, xs, e3, hsl, ho⟩ := I.so x X e1 e2
    subst e3
    have hf := fo2 D ⟨x, xs, e1, e2, hsl, ho⟩
    obtain ⟨vs, n, q2, q3, q4, q5, q6, q7, q8⟩ := ho
    exact ⟨D, xs, rfl, mS hsl, vs, n, hs _ _ (fun q => (hz _ _ q q2).not (.inl ⟨_, _, rfl⟩)) q2, q3, q4, hf, q6, q7.zflat hs hz q8, q8⟩

theorem loopT {It : Addr} {fp wr : List Addr} {Pt : Nat → Array Value → Prop} {St : Nat → Heap → Prop} {Mid : Nat → Addr → Heap → Prop} {dss : List (List PyData)} {s₁ s₂ : Shared} {elts : List Expr} {ek : Nat} {ep : Pos} {bd : Env0 → List PyData → Env0} {b : List Stmt} {mb : List MS} {o : Out}
    (W : WalksT prog w A It fp wr dss.length Pt St Mid) (hb : XL S prog w L Γ cx ow b mb) (I : Inv S L cx ow env P₀ s₀ F hF A ρ s P m) (k1 : Keeps s s₁) (k2 : Keeps s₁ s₂)
    (hwr : ∀ a ∈ wr, s₁.heap.get? a = none) (hfp : ∀ a ∈ fp, s₁.heap.get? a = none ∨ (Up P s a ∧ ∃ o, s₁.heap.get? a = some o)) (hfa : ∀ i h, St i h → ∀ a ∈ fp, ∃ o, h.get? a = some o)
    (hzo : ∀ i h, St i h → 0 < i → (∀ l vs n, (Up P s l) → s₁.heap.get? l = some (lob vs n) → h.get? l = some (lob vs n)) → ∀ a ∈ wr, ∀ o, h.get? a = some o → ZO h o)
    (hst : St 0 s₂.heap) (hPt : ∀ i vals, Pt i vals → ∃ ds, dss[i]? = some ds ∧ RdAll (Up P s) s₁.heap vals.toList ds)
    (htgt : ∀ ρ' F' hF' s3 P3 m3 T vals ds (Q : Unit → Shared → Prop) (E : Value → Shared → Prop), ds ∈ dss → Inv S L cx ow env P₀ s₀ F' hF' A ρ' s3 P3 m3 → s3.heap.IsTuple T vals → RdAll P3 s3.heap vals.toList ds →
      (∀ s4 P4 m4, Inv S L cx ow env P₀ s₀ F' hF' A (bd ρ' ds) s4 P4 m4 → Q () s4) → wpAny (model prog w) A (assign (.Tuple elts ek ep) env (.ref T)) Q E s3)
    (hr : forGoT (fun ds ρ => rL Γ ow mb (bd ρ ds)) dss ρ = some o) :
    codeAny (model prog w) A (.forLoop (.Tuple elts ek ep) (.ref It) b [] env) (fun r s' => match r with | .ok f => Post S L cx ow env P₀ s₀ F hF A o f s' | .error e => cameBackBy (model prog w) A env E e s') s₂ := by
  have le1 := keeps_le k1
  have le2 := keeps_le k2
  let G : Addr → Prop := fun a => (Up P s a ∨ ∃ vs n, s₁.heap.get? a = some (tob vs n)) ∧ ∃ o, s₁.heap.get? a = some o
  let F2 : Addr → Prop := fun a => F a ∨ G a ∨ a ∈ fp
  have nG : ∀ a o, s.heap.get? a = some o → ¬ P a → (∀ vs n, o ≠ tob vs n) → ¬ G a := fun a o e hp hn h => by
    rcases h.1 with h | ⟨vs, n, h⟩
    · rcases h with h | h
      · exact hp h
      · rw [e] at h; cases h
    · rw [le1 _ _ e] at h; cases h; exact hn _ _ rfl
  have nfp : ∀ a o, s.heap.get? a = some o → ¬ G a → a ∉ fp := fun a o e hg hm => by
    rcases hfp a hm with q | ⟨q, o', e'⟩
    · rw [le1 _ _ e] at q; cases q
    · exact hg ⟨.inl q, o', e'⟩
  have nF2 : ∀ a o, s.heap.get? a = some o → ¬ F a → ¬ P a → (∀ vs n, o ≠ tob vs n) → ¬ F2 a := fun a o e hf hp hn h => by
    have hg := nG a o e hp hn
    rcases h with h | h | h
    · exact hf h
    · exact hg h
    · exact nfp a o e hg h
  have fl2 : ¬ F2 env.locals := by obtain ⟨o, e, ne⟩ := ns_some I.ns; exact nF2 _ o e I.fl I.pl ne.2
  have fc2 : ∀ (n : Str) (c : Addr), env.cells.lookup n = some c → ¬ F2 c := fun n c h => by obtain ⟨u, hu⟩ := I.ce n c h; obtain ⟨o, e, ne⟩ := cell_some hu; exact nF2 _ o e (I.fc n c h) (I.pc n c h) ne.2
  have fo2 : ∀ s' : Shared, Le s.heap s'.heap → ∀ D, IsOwn cx ow env s₀ F P ρ s'.heap m D → ¬ F2 D := fun s' hle D hD => by
    obtain ⟨x', xs', e1, e2, hsl, _⟩ := hD
    obtain ⟨D0, ys, e3, hsl0, vs, n', q2, q3, q4, q5, q6, q7, q8⟩ := I.so x' _ e1 e2
    have := slot_det (hsl0.keeps hle) hsl
    cases this
    exact nF2 D _ q2 q5 q3 (fun vs n q => by simp at q)
  have wrs : ∀ a, a ∈ wr → s.heap.get? a = none := fun a ha => by
    cases q : s.heap.get? a with
    | none => rfl
    | some o => have := hwr a ha; rw [le1 _ _ q] at this; cases this
  have wr0 : ∀ a, a ∈ wr → s₀.heap.get? a = none := fun a ha => by
    cases q : s₀.heap.get? a with
    | none => rfl
    | some o => have := wrs a ha; rw [keeps_le I.k _ _ q] at this; cases this
  have wrl : env.locals ∉ wr := fun h => by obtain ⟨o, e, _⟩ := ns_some I.ns; rw [wrs _ h] at e; cases e
  have wrc : ∀ (n : Str) (c : Addr), env.cells.lookup n = some c → c ∉ wr := fun n c h hc => by obtain ⟨u, hu⟩ := I.ce n c h; obtain ⟨o, e, _⟩ := cell_some hu; rw [wrs _ hc] at e; cases e
  have nF : ∀ a o, F a → hF.get? a = some o → a ∉ wr := fun a o h e hm => by have := I.fk a o h e; rw [wrs a hm] at this; cases this
  have nGw : ∀ a, G a → a ∉ wr := fun a h hm => by obtain ⟨o, e⟩ := h.2; rw [hwr a hm] at e; cases e
  -- from what stood ahead to a heap in which the iterators alone are new
  have first : ∀ (j : Nat) (h₁ : Heap) (tk : Nat), St j h₁ → (∀ a o, s.heap.get? a = some o → h₁.get? a = some o) → (∀ a o, G a → s₁.heap.get? a = some o → h₁.get? a = some o) → ∀ s' : Shared, Keeps s s' → s'.heap = h₁ → Inv S L cx ow env P₀ s₀ F2 h₁ A ρ s' P m := by
    rintro j h₁ tk hst₁ hle hG s' hk rfl
    refine (I.same hk).rebase (fun a h => ?_) (fun a o _ e => e) fl2 fc2 (fo2 _ (keeps_le hk))
    rcases h with h | h | h
    · obtain ⟨o, e⟩ := I.fa a h; exact ⟨o, hle _ _ (I.fk a o h e)⟩
    · obtain ⟨o, e⟩ := h.2; exact ⟨o, hG _ _ h e⟩
    · exact hfa _ _ hst₁ a h
  refine codeAny_forLoop_any (fun n s' => ∃ i ρ' P' m', i ≤ dss.length ∧ n = dss.length + 1 - i ∧ forGoT (fun ds ρ => rL Γ ow mb (bd ρ ds)) (dss.drop i) ρ' = some o ∧ St i s'.heap ∧ Inv S L cx ow env P₀ s₀ F2 s'.heap A ρ' s' P' m' ∧
    (∀ a o, F a → hF.get? a = some o → s'.heap.get? a = some o) ∧ (∀ a o, G a → s₁.heap.get? a = some o → s'.heap.get? a = some o) ∧ (i = 0 → Keeps s s' ∧ P' = P ∧ m' = m ∧ ρ' = ρ)) ?_ (dss.length + 1)
    ⟨0, ρ, P, m, Nat.zero_le _, rfl, by simpa using hr, hst, first 0 _ 0 hst (Le.trans le1 le2) (fun a o _ e => le2 _ _ e) s₂ (keeps_trans k1 k2) rfl, fun a o h e => le2 _ _ (le1 _ _ (I.fk a o h e)), fun a o _ e => le2 _ _ e, fun _ => ⟨keeps_trans k1 k2, rfl, rfl, rfl⟩⟩
  intro n' s' hJ
  refine hide fun X back => ?_
  obtain ⟨i, ρ', P', m', hi, hnn, hgo, hst', I', hkF, hkG, h0⟩ := hJ
  have hok : okEnv ρ' = true := forGoT_ok hgo
  -- the state behind a turn of the iterators
  have turned : ∀ (j : Nat) (h₁ : Heap) (tk : Nat) (F3 : Addr → Prop) (hF3 : Heap), St j h₁ ∨ F3 = F → (∀ a o, a ∉ wr → s'.heap.get? a = some o → h₁.get? a = some o) → (∀ a, F3 a → ∃ o, hF3.get? a = some o) → (∀ a o, F3 a → hF3.get? a = some o → h₁.get? a = some o) → (∀ a, F3 a → F2 a) →
      Inv S L cx ow env P₀ s₀ F3 hF3 A ρ' { s' with heap := h₁, toks := tk } (fun a => P' a ∧ a ∉ wr) m' := by
    intro j h₁ tk F3 hF3 _ hk₁ fa3 fk3 hsub
    by_cases hi0 : i = 0
    · obtain ⟨hk, rfl, rfl, rfl⟩ := h0 hi0
      have hle : Le s.heap h₁ := fun a o e => hk₁ a o (fun hm => by rw [wrs a hm] at e; cases e) (keeps_le hk _ _ e)
      have hk' : Keeps s { s' with heap := h₁, toks := tk } := by
        obtain ⟨h2, t2, rfl, _⟩ := hk
        exact ⟨h₁, tk, rfl, hle⟩
      have I1 := (I.same hk').rebase (F2 := F3) (hF2 := hF3) fa3 fk3 (fun h => fl2 (hsub _ h)) (fun n c h q => fc2 n c h (hsub _ q)) fun D hD q => fo2 _ hle D hD (hsub _ q)
      refine I1.stepP (s1 := { s' with heap := h₁, toks := tk }) (keeps_refl _) (fun a h => ?_) fun a h => ⟨.inl h.1, I1.pa a h.1⟩ |> fun q => q
      refine ⟨h, fun hm => ?_⟩
      obtain ⟨o, e⟩ := I.pa a h
      rw [wrs a hm] at e; cases e
    · have hz := hzo i s'.heap hst' (Nat.pos_of_ne_zero hi0) fun l vs n hp e => hkG l _ ⟨.inl hp, _, e⟩ e
      have I2 := I'.shrink (P' := fun a => P' a ∧ a ∉ wr) (fun a h => h.1) fun a o e hq p => ⟨p, fun hm => (hz a hm o e).not hq⟩
      refine I2.changeZ (Z := fun a => a ∈ wr) (fun a o hne e => hk₁ a o hne e) (fun a o ha e => hz a ha o e) hok wr0 wrl wrc fa3 fk3 (fun h => fl2 (hsub _ h)) (fun n c h q => fc2 n c h (hsub _ q)) (fun D hD q => ?_) fun a h => h.2
      obtain ⟨_, _, _, _, _, vs, n, q2, q3, q4, q5, _⟩ := hD
      exact q5 (hsub _ q)
  refine back ?_
  clear back
  subst hnn
  by_cases hlt : i < dss.length
  · refine W.item i s' _ _ hlt hst' fun T vals h₁ tk hPv hsz hT hMid hk₁ => ?_
    refine W.go elts ek ep i T _ _ _ hMid fun h₂ hst₂ hk₂ => ?_
    obtain ⟨ds, hd, hrd⟩ := hPt i vals hPv
    have hdrop : dss.drop i = ds :: dss.drop (i + 1) := by
      rw [List.drop_eq_getElem_cons hlt]
      rw [List.getElem?_eq_getElem hlt] at hd
      cases hd; rfl
    rw [hdrop] at hgo
    unfold forGoT at hgo
    rw [if_pos hok] at hgo
    have hk12 : ∀ a o, a ∉ wr → s'.heap.get? a = some o → h₂.get? a = some o := fun a o ha e => hk₂ a o ha (hk₁ a o ha e)
    have I1 := turned (i + 1) h₂ tk F2 h₂ (.inl hst₂) hk12 (fun a h => by
      by_cases hm : a ∈ fp
      · exact hfa _ _ hst₂ a hm
      · obtain ⟨o, e⟩ := I'.fa a h
        exact ⟨o, hk12 a o (fun q => hm (W.sub _ q)) e⟩) (fun a o _ e => e) fun _ h => h
    have keepG : ∀ a o, G a → s₁.heap.get? a = some o → h₂.get? a = some o := fun a o h e => hk12 a o (nGw a h) (hkG a o h e)
    have I3 := I1.more (P' := fun a => Up P s a ∧ ∃ o, s₁.heap.get? a = some o) (fun a h => (I.step k1).pu a h) (fun a h => by obtain ⟨o, e⟩ := h.2; exact ⟨o, keepG a o ⟨.inl h.1, h.2⟩ e⟩) (I.step k1).pl (I.step k1).pc (fun D hD h => by
      obtain ⟨_, _, _, _, _, vs, n, q2, q3, q4, q5, _⟩ := hD
      exact q5 (.inr (.inl ⟨.inl h.1, h.2⟩)))
    have rv : RdAll (fun a => (P' a ∧ a ∉ wr) ∨ Up P s a ∧ ∃ o, s₁.heap.get? a = some o) h₂ vals.toList ds := hrd.mono (fun a o e p => .inr ⟨p, o, e⟩) fun a o e h => keepG a o ⟨h.imp id fun ⟨vs, n, q⟩ => ⟨vs, n, by rw [e, q]⟩, o, e⟩ e
    refine htgt ρ' F2 h₂ _ _ m' T vals ds _ _ (List.mem_of_getElem? hd) I3 (hT.at fun o e => hk₂ T o (W.apart i T h₁ hMid) e) rv fun s3 P4 m3 I4 => ?_
    split at hgo
    · rename_i ρ2 h2
      refine wpAny_mono (hb _ _ env P₀ s₀ F2 h₂ A s3 _ m3 _ h2 I4) (fun f s4 hp => ?_) fun _ _ x => x
      obtain ⟨rfl, P5, m5, I5⟩ := hp
      refine ⟨dss.length + 1 - (i + 1), by omega, i + 1, ρ2, P5, m5, hlt, rfl, hgo, W.frame _ _ _ hst₂ fun b hb o e => I5.fk b o (.inr (.inr hb)) e, ?_, fun a o h e => I5.fk a o (.inl h) (hk12 a o (nF a o h e) (hkF a o h e)), fun a o h e => I5.fk a o (.inr (.inl h)) (keepG a o h e), fun q => by cases q⟩
      exact I5.rebase (fun a h => by obtain ⟨o, e⟩ := I5.fa a h; exact ⟨o, I5.fk a o h e⟩) (fun a o _ e => e) fl2 fc2 fun D hD h => by
        obtain ⟨_, _, _, _, _, vs, n, q2, q3, q4, q5, _⟩ := hD
        exact q5 h
    · rename_i d' h2
      cases hgo
      refine wpAny_mono (hb _ _ env P₀ s₀ F2 h₂ A s3 _ m3 _ h2 I4) (fun f s4 hp => ?_) fun _ _ x => x
      obtain ⟨v, rfl, hk, hv⟩ := hp
      exact ⟨v, rfl, hk, hv⟩
    · cases hgo
  · have hin : i = dss.length := by omega
    subst hin
    refine W.done s' _ _ hst' fun h₁ tk hk₁ => ?_
    rw [List.drop_length, forGoT, if_pos hok] at hgo
    cases hgo
    refine wpAny_execs_nil ⟨rfl, fun a => P' a ∧ a ∉ wr, m', ?_⟩
    exact turned 0 h₁ tk F hF (.inr rfl) hk₁ I.fa (fun a o h e => hk₁ a o (nF a o h e) (hkF a o h e)) fun a h => .inl h
end
end Mine
end

section
open PySem PyProof.Rows PySem.W
set_option Elab.async false
set_option linter.unusedVariables false
set_option linter.unusedSimpArgs false
namespace Mine
section
variable {S : Sys} {prog : Program} {w : World} {L : Nat} {Γ : Ctab} {cx : Cx} {ow : Nat} {env : Env} {P₀ F P : Addr → Prop} {s₀ s : Shared} {hF : Heap} {A : Around} {ρ : Env0} {m : Str → Option Value} {E : Value → Shared → Prop}

theorem x_err {e c : Option Expr} {pos : Pos} : XS S prog w L Γ cx ow (.Raise e c pos) .err := by
  intro ρ o env P₀ s₀ F hF A s P m E hr I
  cases hr

theorem rs_drop {e : ME} {o : Out} (hr : rS Γ ow (.drop e) ρ = some o) : evP Γ ρ e = some .none ∧ o = .nxt ρ := by
  have hr : (match evP Γ ρ e with | some .none => some (Out.nxt ρ) | _ => none) = some o := hr
  cases h : evP Γ ρ e with
  | none => rw [h] at hr; cases hr
  | some d =>
    rw [h] at hr
    cases d with
    | none => cases hr; exact ⟨rfl, rfl⟩
    | _ => cases hr
theorem rs_forE {kp kf kl : Nat} {src : ME} {body : List MS} {o : Out} (hr : rS Γ ow (.forE kp kf kl src body) ρ = some o) : ow ∉ [kp, kf, kl] ∧ ∃ xs, evP Γ ρ src = some (.list xs) ∧ xs.all isPairD = true ∧ forGoT (fun ds ρ => rL Γ ow body (bdE kp kf kl ρ ds)) (enumE 0 xs) ρ = some o := by
  obtain ⟨hk, hr⟩ := none_if hr
  refine ⟨fun q => hk (List.contains_iff_mem.mpr q), ?_⟩
  have hr : (match evP Γ ρ src with | some (.list xs) => if xs.all isPairD then forGoT (fun ds ρ => rL Γ ow body (bdE kp kf kl ρ ds)) (enumE 0 xs) ρ else none | _ => none) = some o := hr
  cases h1 : evP Γ ρ src with
  | none => rw [h1] at hr; cases hr
  | some x =>
    rw [h1] at hr
    cases x with
    | list xs => exact ⟨xs, rfl, if_some hr⟩
    | _ => cases hr
theorem rs_forZ {k1 k2 : Nat} {a b : ME} {body : List MS} {o : Out} (hr : rS Γ ow (.forZ k1 k2 a b body) ρ = some o) : ow ∉ [k1, k2] ∧ ∃ xs ys, evP Γ ρ a = some (.list xs) ∧ evP Γ ρ b = some (.list ys) ∧ xs.all isListD = true ∧ forGoT (fun ds ρ => rL Γ ow body (setAll ρ [k1, k2] ds)) (List.zipWith (fun x y => [x, y]) xs ys) ρ = some o := by
  obtain ⟨hk, hr⟩ := none_if hr
  refine ⟨fun q => hk (List.contains_iff_mem.mpr q), ?_⟩
  have hr : (match evP Γ ρ a, evP Γ ρ b with | some (.list xs), some (.list ys) => if xs.all isListD then forGoT (fun ds ρ => rL Γ ow body (setAll ρ [k1, k2] ds)) (List.zipWith (fun x y => [x, y]) xs ys) ρ else none | _, _ => none) = some o := hr
  cases h1 : evP Γ ρ a with
  | none => rw [h1] at hr; cases hr
  | some x => cases h2 : evP Γ ρ b with
    | none => rw [h1, h2] at hr; cases x <;> cases hr
    | some y =>
      rw [h1, h2] at hr
      cases x with
      | list xs => cases y with
        | list ys => exact ⟨xs, ys, rfl, rfl, if_some hr⟩
        | _ => cases hr
      | _ => cases hr
theorem all_nil {α : Type} {Q : α → Prop} : ∀ a ∈ ([] : List α), Q a := fun _ h => by cases h
theorem all_cons {α : Type} {Q : α → Prop} {x : α} {l : List α} (h : Q x) (k : ∀ a ∈ l, Q a) : ∀ a ∈ x :: l, Q a := fun a m => by
  cases m with
  | head => exact h
  | tail _ m => exact k a m
theorem not_mem_cons {α : Type} {x y : α} {l : List α} (h : x ∉ y :: l) : y ≠ x ∧ x ∉ l := ⟨fun q => h (q ▸ List.mem_cons_self), fun q => h (List.mem_cons_of_mem _ q)⟩
theorem ne_add {N a b : Nat} (h : a ≠ b) : N + a ≠ N + b := fun q => h (Nat.add_left_cancel q)
theorem ge_none {h : Heap} {q : Nat} (hq : h.objs.size ≤ q) : h.get? q = none := by
  cases e : h.get? q with
  | none => rfl
  | some o => exact absurd (Heap.lt_size e) (Nat.not_lt.mpr hq)
theorem zo_it {T : String} {o : Obj} {h : Heap} (e : o.cls = .type T) (h1 : T ≠ "list") (h2 : T ≠ "tuple") (h3 : T ≠ "dict") : ZO h o := .inl ⟨T, e, h1, h2, h3⟩
/-- two names are bound -/
theorem put_two {a b : Str} {ka kb : Nat} {d1 d2 : PyData} {vs : List Value} {ts : List (Value → Sem Unit)} (ht : ts.length = 2) (h1 : ∀ t, ts[0]? = some t → StoreT prog w A env a t) (h2 : ∀ t, ts[1]? = some t → StoreT prog w A env b t) (la : isLC cx a = true) (lb : isLC cx b = true) (sa : slotOf cx.slots a = some ka) (sb : slotOf cx.slots b = some kb) (na : ka ≠ ow) (nb : kb ≠ ow)
    (I : Inv S L cx ow env P₀ s₀ F hF A ρ s P m) (hr : RdAll P s.heap vs [d1, d2]) {Q : Unit → Shared → Prop} (hQ : ∀ s' P' m', Inv S L cx ow env P₀ s₀ F hF A (setAll ρ [ka, kb] [d1, d2]) s' P' m' → Q () s') : wpAny (model prog w) A (assignInOrder ts vs) Q E s := by
  refine put_all (xs := [a, b]) (ks := [ka, kb]) (ds := [d1, d2]) ht rfl hr.length (fun i t x e1 e2 => ?_) (fun i k x e1 e2 => ?_) I hr hQ
  · cases i with
    | zero => cases e2; exact h1 t e1
    | succ i => cases i with
      | zero => cases e2; exact h2 t e1
      | succ i => cases e2
  · cases i with
    | zero => cases e1; cases e2; exact ⟨slotOf_get sa, isLC_of la, na⟩
    | succ i => cases i with
      | zero => cases e1; cases e2; exact ⟨slotOf_get sb, isLC_of lb, nb⟩
      | succ i => cases e2

theorem x_drop {n nx : Nat} (hs : ∀ n, Sound S prog w L Γ n) {f : Str} {fp cp pos : Pos} {a : Expr} {me : ME} (hc : cE S.gt n nx (cx.mask ow) (.Call (.Name f fp) [a] [] cp) = some me) :
    XS S prog w L Γ cx ow (.Expr (.Call (.Name f fp) [a] [] cp) pos) (.drop me) := by
  intro ρ o env P₀ s₀ F hF A s P m E hr I
  obtain ⟨hd, ho⟩ := rs_drop hr
  subst ho
  refine wpAny_Expr (ev_masked (hs n) I hc hd fun v s1 k1 I1 r1 => ?_) (interactive_fn I.e) rfl
  have ev : v = .none := by cases r1; rfl
  rw [ev]
  exact ⟨rfl, _, _, I1⟩

theorem enumE_get : ∀ (xs : List PyData) (j i : Nat) (x : PyData), xs[i]? = some x → (enumE j xs)[i]? = some [.int ((j + i : Nat) : Int), x]
  | [], _, _, _, h => by simp at h
  | y :: r, j, 0, x, h => by simp at h; subst h; simp [enumE]
  | y :: r, j, i + 1, x, h => by
    have := enumE_get r (j + 1) i x (by simpa using h)
    simp only [enumE, List.getElem?_cons_succ, this]
    rw [show j + 1 + i = j + (i + 1) by omega]
theorem enumE_len : ∀ (xs : List PyData) (j : Nat), (enumE j xs).length = xs.length
  | [], _ => rfl
  | _ :: r, j => by simp [enumE, enumE_len r]
theorem enumE_mem : ∀ (xs : List PyData) (j : Nat) (ds : List PyData), ds ∈ enumE j xs → ∃ i x, x ∈ xs ∧ ds = [.int i, x]
  | [], _, _, h => by simp [enumE] at h
  | y :: r, j, ds, h => by
    simp only [enumE, List.mem_cons] at h
    rcases h with rfl | h
    · exact ⟨_, y, List.mem_cons_self, rfl⟩
    · obtain ⟨i, x, hx, e⟩ := enumE_mem r _ _ h
      exact ⟨i, x, List.mem_cons_of_mem _ hx, e⟩

theorem pair_of {x : PyData} (h : isPairD x = true) : ∃ a b, x = .tuple [a, b] := by
  cases x with
  | tuple l => cases l with
    | nil => cases h
    | cons a l => cases l with
      | nil => cases h
      | cons b l => cases l with
        | nil => exact ⟨a, b, rfl⟩
        | cons c l => cases h
  | _ => cases h
theorem listD_of {x : PyData} (h : isListD x = true) : ∃ l, x = .list l := by
  cases x with
  | list l => exact ⟨l, rfl⟩
  | _ => cases h
theorem arr_two {vs : Array Value} (h : vs.toList.length = 2) : ∃ a b, vs = #[a, b] := by
  obtain ⟨l⟩ := vs
  cases l with
  | nil => cases h
  | cons a l => cases l with
    | nil => cases h
    | cons b l => cases l with
      | nil => exact ⟨a, b, rfl⟩
      | cons c l => cases h
theorem rdall_cons {P : Addr → Prop} {h : Heap} {v : Value} {vs : List Value} {d : PyData} {ds : List PyData} (r : RdAll P h (v :: vs) (d :: ds)) : Rd P h v d ∧ RdAll P h vs ds := by
  cases r with | cons a b => exact ⟨a, b⟩
theorem x_forE {n nx ka kb kc : Nat} (hs : ∀ n, Sound S prog w L Γ n) {a b c : Str} {pa pb pc p1 p2 fp cp pos : Pos} {j1 j2 : Nat} {src : Expr} {body : List Stmt} {me : ME} {mb : List MS}
    (hg : isGlob cx (Str.ofString "enumerate") = true) (la : isLC cx a = true) (lb : isLC cx b = true) (lc : isLC cx c = true) (sa : slotOf cx.slots a = some ka) (sb : slotOf cx.slots b = some kb) (sc : slotOf cx.slots c = some kc)
    (hc : cE S.gt n nx (cx.mask ow) src = some me) (hb : XL S prog w L Γ cx ow body mb) :
    XS S prog w L Γ cx ow (.For (.Tuple [.Name a pa, .Tuple [.Name b pb, .Name c pc] j1 p1] j2 p2) (.Call (.Name (Str.ofString "enumerate") fp) [src] [] cp) body [] pos) (.forE ka kb kc me mb) := by
  intro ρ o env P₀ s₀ F hF A s P m E hr I
  obtain ⟨how, xs, hxs, hpair, hr⟩ := rs_forE hr
  obtain ⟨na, how⟩ := not_mem_cons how
  obtain ⟨nb, how⟩ := not_mem_cons how
  have nc := (not_mem_cons how).1
  refine wpAny_For ?_ (folded_notSet rfl env)
  rw [eval_CallName]
  refine wpAny_bind (name_bi (cx := cx.mask ow) I.ctxM (by exact hg) (v := .type "enumerate") (by decide +kernel) ?_)
  have hns : noStar [src] = true := by rw [cE_star hc]; rfl
  refine PySem.callWith_type (starEach_plain _ _ hns) (evalArgs_all hns ?_)
  refine wpAny_items_cons ((((hs n).e _ _ _ _ hc).e ρ _ env P s A hxs I.ctxM).bind fun v s1 k1 r1 => wpAny_items_nil ?_) (starEach_cons hns).1
  obtain ⟨l, vs, n', ev, pl, el, sz, rl⟩ := list_inv r1
  · rw [ev]
    have hvl := rl.length
    rw [Array.length_toList] at hvl
    refine call_enumerate_1 el fun h' he hit hsz hk => ?_
    have hle : Le s1.heap h' := hk
    have hllt := Heap.lt_size el
    have W := WalksT.enumerate (prog := prog) (w := w) I.r.hd (s1.heap.objs.size + 1) s1.heap.objs.size l (Nat.ne_of_gt (Nat.lt_succ_self _)) (Nat.ne_of_lt (Nat.lt_succ_of_lt hllt)) (Nat.ne_of_lt hllt) vs
    rw [hvl, ← enumE_len xs 0] at W
    refine wpAny_pyIter_enum he (loopT (bd := bdE ka kb kc) W hb I k1 (keeps_heap' hle) ?_ ?_ ?_ ?_ ⟨⟨_, he⟩, hit, (isList_of el).at fun o e => hk _ _ e⟩ ?_ ?_ hr)
    · exact all_cons (ge_none (Nat.le_succ _)) (all_cons (fresh_size _) all_nil)
    · exact all_cons (.inl (ge_none (Nat.le_succ _))) (all_cons (.inl (fresh_size _)) (all_cons (.inr ⟨pl, _, el⟩) all_nil))
    · rintro i h ⟨⟨old, he⟩, ⟨o1, hit, _⟩, ⟨o2, hl, _⟩⟩
      exact all_cons ⟨_, he⟩ (all_cons ⟨o1, hit⟩ (all_cons ⟨o2, hl⟩ all_nil))
    · rintro i h ⟨⟨old, he⟩, ⟨o1, hit, hc', _⟩, hl⟩ _ _
      refine all_cons (fun o ho => ?_) (all_cons (fun o ho => ?_) all_nil)
      · cases he.symm.trans ho; exact zo_it (T := "enumerate") rfl (by decide) (by decide) (by decide)
      · cases hit.symm.trans ho; exact zo_it hc' (by decide) (by decide) (by decide)
    · rintro i vals ⟨t, x, hx, rfl⟩
      obtain ⟨d, hd, hr⟩ := rl.getv (k := i) (by simpa using hx)
      refine ⟨_, enumE_get xs 0 i d hd, .cons ?_ (.cons hr .nil)⟩
      rw [show ((0 + i : Nat) : Int) = (i : Int) by omega]
      exact .int _ _
    · intro ρ' F' hF' s3 P3 m3 T vals ds Q E' hds I3 hT hrd hQ
      obtain ⟨i, x, hx, rfl⟩ := enumE_mem _ _ _ hds
      obtain ⟨d1, d2, hp⟩ := pair_of (List.all_eq_true.mp hpair x hx)
      subst hp
      obtain ⟨v0, v1, hv⟩ := arr_two hrd.length
      subst hv
      obtain ⟨r0, hrd⟩ := rdall_cons hrd
      obtain ⟨t, us, n2, ev, et, sz2, rt⟩ := tup_inv (rdall_cons hrd).1
      subst ev
      refine wpAny_assign_Tuple I.r.hd hT rfl rfl fun h4 he4 => ?_
      have k4 : Keeps s3 { s3 with heap := h4 } := keeps_heap' fun a o e => he4 a o (Nat.ne_of_lt (Heap.lt_size e)) e
      have I4 := I3.same k4
      show wpAny _ A (holding [.ref t] (assign (.Name a pa) env v0) >>= fun _ => assignInOrder [assign (.Tuple [.Name b pb, .Name c pc] j1 p1) env] [.ref t]) _ _ _
      refine wpAny_bind (wpAny_holding (wpAny_assign_Name (I4.put (slotOf_get sa) (isLC_of la) na (r0.mono (fun _ _ _ p => p) (.of_le (keeps_le k4))) fun s5 m5 I5 hz => ?_)))
      obtain ⟨z, hz1, hz2⟩ := hz
      have sm := I4.sameRd hz1 hz2
      have et5 : s5.heap.get? t = some (tob us n2) := sm _ _ (keeps_le k4 _ _ et) (.inr ⟨_, _, rfl⟩)
      have rt5 : RdAll P3 s5.heap us.toList [d1, d2] := (rt.mono (fun _ _ _ p => p) (.of_le (keeps_le k4))).mono (fun _ _ _ p => p) sm
      have hul := rt.length
      rw [Array.length_toList] at hul
      show wpAny _ A (holding [] (assign (.Tuple [.Name b pb, .Name c pc] j1 p1) env (.ref t)) >>= fun _ => pure ()) _ _ _
      refine wpAny_bind (wpAny_holding (assign_Tuple_tuple I.r.hd (isTup_of et5) (by rw [hul]; rfl) rfl fun h6 he6 => ?_))
      have k6 : Keeps s5 { s5 with heap := h6 } := keeps_heap' fun a o e => he6 a o (Nat.ne_of_lt (Heap.lt_size e)) e
      exact put_two rfl (fun t e => by cases e; exact storeT_assign) (fun t e => by cases e; exact storeT_assign) lb lc sb sc nb nc (I5.same k6) (rt5.mono (fun _ _ _ p => p) (.of_le (keeps_le k6))) fun s7 P7 m7 I7 => wpAny_pure (hQ s7 P7 m7 I7)

/-- the pair that a zip turns over -/
noncomputable def TOk (TO : Addr) (vs : Array Value) (h : Heap) : Prop := ∃ (k : Nat) (x y : Value), vs[k]? = some x ∧ IsPair h TO x y

theorem walks_zip (hh : A.handled = none) (z TI TO i1 i2 l1 l2 : Addr) (D : ZipApart z TI TO i1 i2 l1 l2) (xs ys : Array Value) :
    WalksT prog w A z [z, TI, TO, i1, i2, l1, l2] [z, TO, i1, i2] (min xs.size ys.size)
      (fun i vals => ∃ x y, xs[i]? = some x ∧ ys[i]? = some y ∧ vals = #[x, y])
      (fun i h => (IsZip h z TI TO .none ∧ IsPair h TI (.ref i1) (.ref i2) ∧ (∃ a b, IsPair h TO a b) ∧ h.IsListIter i1 l1 i ∧ h.IsListIter i2 l2 i ∧ h.IsList l1 xs ∧ h.IsList l2 ys) ∧ (0 < i → TOk TO xs h))
      (fun i T h => (IsZip h z TI TO (rawInt T) ∧ IsPair h TI (.ref i1) (.ref i2) ∧ (∃ a b, IsPair h TO a b) ∧ h.IsListIter i1 l1 (i + 1) ∧ h.IsListIter i2 l2 (i + 1) ∧ h.IsList l1 xs ∧ h.IsList l2 ys ∧
        T ≠ z ∧ T ≠ TO ∧ T ≠ i1 ∧ T ≠ i2) ∧ TOk TO xs h) := by
  have W := WalksT.zip2 (prog := prog) (w := w) hh z TI TO i1 i2 l1 l2 D xs ys
  refine ⟨W.sub, fun i h h' hst hk => ⟨W.frame i h h' hst.1 hk, fun hi => ?_⟩, fun i s Q E hi hst hQ => ?_, fun elts k pos i T s Q E hm hQ => ?_, fun i T h hm => W.apart i T h hm.1, fun s Q E hst hQ => W.done s Q E hst.1 hQ, fun i s Q E hst hQ => W.self i s Q E hst.1 hQ⟩
  · obtain ⟨k, x, y, h1, h2⟩ := hst.2 hi
    exact ⟨k, x, y, h1, hk TO (by simp) _ h2⟩
  · obtain ⟨⟨hz, hTI, ⟨a, b, hTO⟩, h1, h2, hl1, hl2⟩, _⟩ := hst
    have hix : i < xs.size := Nat.lt_of_lt_of_le hi (Nat.min_le_left ..)
    have hiy : i < ys.size := Nat.lt_of_lt_of_le hi (Nat.min_le_right ..)
    have ex := Array.getElem?_eq_getElem hix
    have ey := Array.getElem?_eq_getElem hiy
    refine wpAny_pyNext_zip_item D hz hTI hTO h1 h2 hl1 hl2 ex ey fun h' a1 a2 a3 a4 a5 a6 hk => ?_
    have lt : ∀ {c o}, s.heap.get? c = some o → s.heap.objs.size ≠ c := fun e => Nat.ne_of_gt (Heap.lt_size e)
    have lti : ∀ {c l j}, s.heap.IsListIter c l j → s.heap.objs.size ≠ c := fun h => let ⟨_, e, _⟩ := h; lt e
    refine hQ s.heap.objs.size #[xs[i], ys[i]] h' s.toks ⟨_, _, ex, ey, rfl⟩ (Nat.le_refl _) ⟨_, a5, rfl, _, rfl⟩ ⟨⟨a1, ?_, ⟨_, _, a2⟩, a3, a4, ?_, ?_, lt hz, lt hTO, lti h1, lti h2⟩, i, _, _, ex, a2⟩ ?_
    · exact hk _ _ D.TIz D.TITO D.TIi1 D.TIi2 hTI
    · exact hl1.at fun o e => hk _ o D.l1z D.l1TO D.l1i1 D.l1i2 e
    · exact hl2.at fun o e => hk _ o D.l2z D.l2TO D.l2i1 D.l2i2 e
    · intro c o hc e
      simp only [List.mem_cons, List.not_mem_nil, or_false, not_or] at hc
      exact hk c o hc.1 hc.2.1 hc.2.2.1 hc.2.2.2 e
  · obtain ⟨hm, k', x, y, e1, e2⟩ := hm
    obtain ⟨hz, hTI, ⟨a, b, hTO⟩, h1, h2, hl1, hl2, _⟩ := hm
    refine wpAny_letOwnedTupleGo_zip hz fun h' hz' hs' => hQ h' ⟨⟨hz', hs'.extBut _ _ D.TIz hTI, ⟨a, b, hs'.extBut _ _ D.TOz hTO⟩, h1.extBut hs'.extBut D.i1z, h2.extBut hs'.extBut D.i2z, hl1.extBut hs'.extBut D.l1z, hl2.extBut hs'.extBut D.l2z⟩, fun _ => ⟨k', x, y, e1, hs'.extBut _ _ D.TOz e2⟩⟩ fun c o hc e => ?_
    simp only [List.mem_cons, List.not_mem_nil, or_false, not_or] at hc
    exact hs'.extBut _ _ hc.1 e

theorem x_forZ {n nx ka kb : Nat} (hs : ∀ n, Sound S prog w L Γ n) {a b : Str} {pa pb p2 fp cp pos : Pos} {j2 : Nat} {e1 e2 : Expr} {body : List Stmt} {me1 me2 : ME} {mb : List MS}
    (hg : isGlob cx (Str.ofString "zip") = true) (la : isLC cx a = true) (lb : isLC cx b = true) (sa : slotOf cx.slots a = some ka) (sb : slotOf cx.slots b = some kb)
    (hc1 : cE S.gt n nx (cx.mask ow) e1 = some me1) (hc2 : cE S.gt n nx (cx.mask ow) e2 = some me2) (hb : XL S prog w L Γ cx ow body mb) :
    XS S prog w L Γ cx ow (.For (.Tuple [.Name a pa, .Name b pb] j2 p2) (.Call (.Name (Str.ofString "zip") fp) [e1, e2] [] cp) body [] pos) (.forZ ka kb me1 me2 mb) := by
  intro ρ o env P₀ s₀ F hF A s P m E hr I
  obtain ⟨how, xs, ys, hxs, hys, hlist, hr⟩ := rs_forZ hr
  obtain ⟨na, how⟩ := not_mem_cons how
  have nb := (not_mem_cons how).1
  refine wpAny_For ?_ (folded_notSet rfl env)
  rw [eval_CallName]
  refine wpAny_bind (name_bi (cx := cx.mask ow) I.ctxM (by exact hg) (v := .type "zip") (by decide +kernel) ?_)
  have hns2 : noStar [e2] = true := by rw [cE_star hc2]; rfl
  have hns : noStar [e1, e2] = true := by rw [cE_star hc1]; exact hns2
  refine PySem.callWith_type (starEach_plain _ _ hns) (evalArgs_all hns ?_)
  refine wpAny_items_cons ((((hs n).e _ _ _ _ hc1).e ρ _ env P s A hxs I.ctxM).bind fun v1 s1 k1 r1 => ?_) (starEach_cons hns).1
  refine wpAny_items_cons ((((hs n).e _ _ _ _ hc2).e ρ _ env P s1 A hys (I.ctxM.keeps k1)).bind fun v2 s2 k2 r2 => wpAny_items_nil ?_) (starEach_cons hns2).1
  replace r1 := r1.later k2
  replace r2 := r2.back k1
  have k12 := keeps_trans k1 k2
  obtain ⟨l1, us, n1, ev1, p1, el1, sz1, rl1⟩ := list_inv r1
  obtain ⟨l2, vs, n2, ev2, pl2, el2, sz2, rl2⟩ := list_inv r2
  · rw [ev1, ev2]
    have hul := rl1.length
    have hvl := rl2.length
    rw [Array.length_toList] at hul hvl
    refine call_zip_2 (isList_of el1) (isList_of el2) fun h' hz hTI hTO hi1 hi2 hsz hk => ?_
    have hle : Le s2.heap h' := hk
    have lt1 : l1 < s2.heap.objs.size := Heap.lt_size el1
    have lt2 : l2 < s2.heap.objs.size := Heap.lt_size el2
    generalize hN : s2.heap.objs.size = N at *
    have none_ge : ∀ j : Nat, s2.heap.get? (N + j) = none := fun j => ge_none (hN ▸ Nat.le_add_right _ _)
    have D : ZipApart (N + 4) (N + 2) (N + 3) N (N + 1) l1 l2 := by
      have e : ∀ a : Addr, a < N → ∀ j : Nat, a ≠ N + j := fun a h j => Nat.ne_of_lt (Nat.lt_of_lt_of_le h (Nat.le_add_right _ _))
      have nn : ∀ i j : Nat, i ≠ j → ((N + i : Addr) ≠ (N + j : Addr)) := fun i j h => ne_add h
      exact ⟨nn 2 4 (by decide), nn 3 4 (by decide), nn 0 4 (by decide), nn 1 4 (by decide), nn 2 3 (by decide), nn 2 0 (by decide), nn 2 1 (by decide), nn 3 0 (by decide), nn 3 1 (by decide), nn 0 1 (by decide), e _ lt1 4, e _ lt1 3, e _ lt1 0, e _ lt1 1, e _ lt2 4, e _ lt2 3, e _ lt2 0, e _ lt2 1⟩
    have W := walks_zip (prog := prog) (w := w) I.r.hd (N + 4) (N + 2) (N + 3) N (N + 1) l1 l2 D us vs
    have hlen : (List.zipWith (fun x y => [x, y]) xs ys).length = min us.size vs.size := by rw [List.length_zipWith, hul, hvl]
    rw [← hlen] at W
    refine wpAny_pyIter_zip hz (loopT (bd := fun ρ ds => setAll ρ [ka, kb] ds) W hb I k12 (keeps_heap' hle) ?_ ?_ ?_ ?_ ⟨⟨hz, hTI, ⟨_, _, hTO⟩, hi1, hi2, (isList_of el1).at fun o e => hk _ _ e, (isList_of el2).at fun o e => hk _ _ e⟩, fun h => absurd h (Nat.lt_irrefl _)⟩ ?_ ?_ hr)
    · exact all_cons (none_ge 4) (all_cons (none_ge 3) (all_cons (none_ge 0) (all_cons (none_ge 1) all_nil)))
    · exact all_cons (.inl (none_ge 4)) (all_cons (.inl (none_ge 2)) (all_cons (.inl (none_ge 3)) (all_cons (.inl (none_ge 0)) (all_cons (.inl (none_ge 1)) (all_cons (.inr ⟨p1, _, el1⟩) (all_cons (.inr ⟨pl2, _, el2⟩) all_nil))))))
    · rintro i h ⟨⟨a1, a2, ⟨x, y, a3⟩, ⟨o4, a4, _⟩, ⟨o5, a5, _⟩, ⟨o6, a6, _⟩, ⟨o7, a7, _⟩⟩, _⟩
      exact all_cons ⟨_, a1⟩ (all_cons ⟨_, a2⟩ (all_cons ⟨_, a3⟩ (all_cons ⟨_, a4⟩ (all_cons ⟨_, a5⟩ (all_cons ⟨_, a6⟩ (all_cons ⟨_, a7⟩ all_nil))))))
    · rintro i h ⟨⟨a1, a2, ⟨x, y, a3⟩, ⟨o4, a4, c4, _⟩, ⟨o5, a5, c5, _⟩, a6, a7⟩, b⟩ hi hkeep
      refine all_cons (fun o ho => ?_) (all_cons (fun o ho => ?_) (all_cons (fun o ho => ?_) (all_cons (fun o ho => ?_) all_nil)))
      · cases a1.symm.trans ho; exact zo_it (T := "zip") rfl (by decide) (by decide) (by decide)
      · obtain ⟨k, x, y, e1, e2⟩ := b hi
        cases e2.symm.trans ho
        obtain ⟨d, hd, hr⟩ := rl1.getv (k := k) (by rw [← e1, Array.getElem?_toList])
        obtain ⟨l, e3⟩ := listD_of (List.all_eq_true.mp hlist d (List.mem_of_getElem? hd))
        rw [e3] at hr
        obtain ⟨l, ws, j, e4, pq, eq, _, _⟩ := list_inv hr
        rw [e4]
        exact .inr ⟨l, y, ws, j, 0, rfl, hkeep l ws j pq eq⟩
      · cases a4.symm.trans ho; exact zo_it c4 (by decide) (by decide) (by decide)
      · cases a5.symm.trans ho; exact zo_it c5 (by decide) (by decide) (by decide)
    · rintro i vals ⟨x, y, hx, hy, rfl⟩
      obtain ⟨d1, hd1, hr1⟩ := rl1.getv (k := i) (by simpa using hx)
      obtain ⟨d2, hd2, hr2⟩ := rl2.getv (k := i) (by simpa using hy)
      exact ⟨[d1, d2], by rw [List.getElem?_zipWith, hd1, hd2], .cons hr1 (.cons hr2 .nil)⟩
    · intro ρ' F' hF' s3 P3 m3 T vals ds Q E' hds I3 hT hrd hQ
      obtain ⟨d1, d2, rfl⟩ : ∃ d1 d2, ds = [d1, d2] := by
        obtain ⟨i, hi⟩ := List.mem_iff_getElem?.mp hds
        rw [List.getElem?_zipWith] at hi
        split at hi
        · cases hi; exact ⟨_, _, rfl⟩
        · cases hi
      have hvl2 := hrd.length
      rw [Array.length_toList] at hvl2
      refine wpAny_assign_Tuple I.r.hd hT (by rw [hvl2]; rfl) rfl fun h4 he4 => ?_
      have k4 : Keeps s3 { s3 with heap := h4 } := keeps_heap' fun a o e => he4 a o (Nat.ne_of_lt (Heap.lt_size e)) e
      exact put_two rfl (fun t e => by cases e; exact storeT_assign) (fun t e => by cases e; exact storeT_assign) la lb sa sb na nb (I3.same k4) (hrd.mono (fun _ _ _ p => p) (.of_le (keeps_le k4))) hQ
end
end Mine
end

section
open PySem PyProof.Rows PySem.W
set_option Elab.async false
set_option linter.unusedVariables false
set_option linter.unusedSimpArgs false
namespace Mine
section
variable {S : Sys} {prog : Program} {w : World} {L : Nat} {Γ : Ctab}

theorem okX_spec {x : Str} (h : okX x = true) : (x == ("__debug__" : Str)) = false := not_false' h
theorem k_ite {α : Type} {r : α} {G : α → Prop} {b : Bool} {x y : Option α} (h : (if b = true then x else y) = some r) (k1 : b = true → x = some r → G r) (k2 : b = false → y = some r → G r) : G r := by
  cases b with
  | true => exact k1 rfl h
  | false => exact k2 rfl h
section
variable {n nx ow : Nat} {cx : Cx} {ms : MS} (hs : ∀ n, Sound S prog w L Γ n)
include hs
theorem s_store {x : Str} {px pos : Pos} {value : Expr} (h : cStore cx ow (cE S.gt n nx (cx.mask ow)) value x = some ms) : XS S prog w L Γ cx ow (.Assign [.Name x px] value pos) ms :=
  k_bind h fun k h1 h => k_ite h (fun hw h => k_map h fun q _ => by
      have hw := beq_iff_eq.mp hw
      subst hw
      rw [q.h]
      exact x_own (lcSlot_spec h1).1 (lcSlot_spec h1).2) fun hw h => k_map h fun e h2 => x_asg hs (lcSlot_spec h1).1 (lcSlot_spec h1).2 (beq_eq_false_iff_ne.mp hw) h2
theorem s_own2 {ts vs : List Expr} {ks : List Nat} {j i : Nat} {tp vp pos : Pos} (ho : swapOk ts vs = true) (hk : allK cx ts = some ks) (h : cOwn2 ow (cE S.gt n nx (cx.mask ow)) ks vs = some ms) : XS S prog w L Γ cx ow (.Assign [.Tuple ts j tp] (.Tuple vs i vp) pos) ms :=
  k_bind h fun k _ h => k_bind h fun v _ h => k_bind h fun q _ h => k_if h fun h4 h => k_map h fun e h5 => by
    rw [v.h, q.h] at ho
    rw [v.h, q.h]
    rw [k.h] at hk
    exact x_own2 hs ho hk (beq_iff_eq.mp h4) h5
theorem s_unp {ts : List Expr} {value : Expr} {j : Nat} {tp pos : Pos} (h : cUnp cx ow (cE S.gt n nx (cx.mask ow)) value ts = some ms) : XS S prog w L Γ cx ow (.Assign [.Tuple ts j tp] value pos) ms :=
  k_bind h fun ks hk h => k_or h (fun h => k_bind h fun vs _ h => k_if h fun ho h => by
      rw [vs.h]
      exact k_or h (fun h => s_own2 hs ho hk h) fun h => k_map h fun e h1 => x_unpT hs ho hk (by rw [vs.h] at h1; exact h1)) fun h => k_bm h fun q e _ h1 => by
    obtain ⟨⟨f, as, kw, cp⟩, e1⟩ := q
    subst e1
    exact x_unpC hs hk h1
theorem s_setL {value t : Expr} (q : IsLast t) {pos : Pos} (h : cSetL cx ow (cE S.gt n nx cx) value q.1.1 = some ms) : XS S prog w L Γ cx ow (.Assign [t] value pos) ms := by
  obtain ⟨⟨x, xp, k, p, q, r⟩, e1⟩ := q
  subst e1
  exact k_if h fun h1 h => k_map h fun e h3 => x_setL hs (beq_iff_eq.mp (Bool.and_eq_true_iff.mp h1).1) (okX_spec (Bool.and_eq_true_iff.mp h1).2) h3
theorem s_meth {e : Expr} (q : IsMeth e) {pos : Pos} (h : cMeth1 cx ow (cE S.gt n nx cx) (cE S.gt n nx (cx.mask ow)) q.1.1 q.1.2.1 q.1.2.2.1 = some ms) : XS S prog w L Γ cx ow (.Expr e pos) ms := by
  obtain ⟨⟨x, nm, a, xp, ap, cp⟩, e1, hl⟩ := q
  subst e1
  refine k_if h fun h1 h => ?_
  have h2 := okX_spec (Bool.and_eq_true_iff.mp h1).2
  have h1 := beq_iff_eq.mp (Bool.and_eq_true_iff.mp h1).1
  refine k_or h (fun h => k_if h fun hn h => k_map h fun e h3 => ?_) fun h => k_if h fun hn h => k_map h fun e h3 => ?_
  · rw [beq_iff_eq.mp hn]
    exact x_push hs h1 h2 hl h3
  · rw [beq_iff_eq.mp hn]
    exact x_ext hs h1 h2 hl h3
variable {B : Option (List MS)} {body : List Stmt} (hB : ∀ mss, B = some mss → XL S prog w L Γ cx ow body mss)
include hB
theorem s_forE {t it : Expr} {pos : Pos} (h : cForE cx (cE S.gt n nx (cx.mask ow)) B t it = some ms) : XS S prog w L Γ cx ow (.For t it body [] pos) ms :=
  k_bind h fun x _ h => k_bind h fun c _ h => k_bind h fun src _ h => k_if h fun h4 h => k_bind h fun ka ha h => k_bbbm h fun kb kc e m hb hc h6 h7 => by
    have h5 := (Bool.and_eq_true_iff.mp h4).2
    have h4 := beq_iff_eq.mp (Bool.and_eq_true_iff.mp h4).1
    rw [h4] at h5
    rw [x.2, c.2, src.h, h4]
    exact x_forE hs h5 (lcSlot_spec ha).1 (lcSlot_spec hb).1 (lcSlot_spec hc).1 (lcSlot_spec ha).2 (lcSlot_spec hb).2 (lcSlot_spec hc).2 h6 (hB _ h7)
theorem s_forZ {t it : Expr} {pos : Pos} (h : cForZ cx (cE S.gt n nx (cx.mask ow)) B t it = some ms) : XS S prog w L Γ cx ow (.For t it body [] pos) ms :=
  k_bind h fun x _ h => k_bind h fun c _ h => k_bind h fun ab _ h => k_if h fun h4 h => k_bind h fun ka ha h => k_bbbm h fun kb e1 e2 m hb h6 h7 h8 => by
    have h5 := (Bool.and_eq_true_iff.mp h4).2
    have h4 := beq_iff_eq.mp (Bool.and_eq_true_iff.mp h4).1
    rw [h4] at h5
    rw [x.2, c.2, ab.h, h4]
    exact x_forZ hs h5 (lcSlot_spec ha).1 (lcSlot_spec hb).1 (lcSlot_spec ha).2 (lcSlot_spec hb).2 h6 h7 (hB _ h8)
end

theorem s_all (hs : ∀ n, Sound S prog w L Γ n) {n : Nat} (ih : ∀ nx cx ow sts mss, cL S.gt n nx cx ow sts = some mss → XL S prog w L Γ cx ow sts mss) : ∀ nx cx ow st ms, cS S.gt (n + 1) nx cx ow st = some ms → XS S prog w L Γ cx ow st ms := by
  intro nx cx ow st ms h
  cases st with
  | Assign ts value pos =>
    exact k_bind h fun t _ h => by
      rw [t.h]
      exact k_or h (fun h => k_bind h fun x _ h => by rw [x.h]; exact s_store hs h) fun h => k_or h (fun h => k_bind h fun t _ h => by rw [t.h]; exact s_unp hs h) fun h => k_bind h fun x _ h => s_setL hs x h
  | AugAssign t op value pos => exact k_bbbm h fun x k o e _ h2 _ h4 => by rw [x.h]; exact x_aug hs o (lcSlot_spec h2).1 (lcSlot_spec h2).2 h4
  | Return e pos => exact k_bm h fun v me _ h2 => by rw [v.h]; exact x_ret hs h2
  | If t a b pos => exact k_bbm h fun mt ma mb h1 h2 h3 => x_ite hs h1 (ih _ _ _ _ _ h2) (ih _ _ _ _ _ h3)
  | For t iter body orelse pos =>
    exact k_bind h fun z _ h => by
      rw [z.down]
      exact k_or h (fun h => k_bind h fun x _ h => k_if h fun hn h => k_bbm h fun k e b h2 h3 h4 => by
        rw [x.h]
        exact x_for hs (lcSlot_spec h2).1 hn (lcSlot_spec h2).2 h3 (ih _ _ _ _ _ h4)) fun h => k_or h (fun h => s_forE hs (fun mss q => ih _ _ _ _ _ q) h) fun h => s_forZ hs (fun mss q => ih _ _ _ _ _ q) h
  | While t body orelse pos => exact k_bbm h fun z mt mb _ h1 h2 => by rw [z.down]; exact x_whl hs h1 (ih _ _ _ _ _ h2)
  | Expr e pos =>
    exact k_or h (fun h => k_bind h fun m _ h => s_meth hs m h) fun h => k_bind h fun c _ h => k_bm h fun o m _ h2 => by
      obtain ⟨⟨f, as, fp, p⟩, e1⟩ := c
      have e3 : as = [o.a] := o.h
      rw [e1, e3] at h2
      rw [e1, e3]
      exact x_drop hs h2
  | Raise _ _ _ => cases h; exact x_err
  | _ => cases h
theorem stmts_sound (hs : ∀ n, Sound S prog w L Γ n) : ∀ n, (∀ nx cx ow st ms, cS S.gt n nx cx ow st = some ms → XS S prog w L Γ cx ow st ms) ∧ (∀ nx cx ow sts mss, cL S.gt n nx cx ow sts = some mss → XL S prog w L Γ cx ow sts mss)
  | 0 => ⟨fun _ _ _ _ _ h => (by cases h), fun _ _ _ _ _ h => (by cases h)⟩
  | n + 1 => ⟨s_all hs (stmts_sound hs n).2, fun nx cx ow sts mss h => xl_of (fun st ms h => (stmts_sound hs n).1 _ _ _ _ _ h) h⟩

section
variable {ow : Nat} {cx : Cx} {env : Env} {P₀ F P : Addr → Prop} {s₀ s : Shared} {hF : Heap} {A : Around} {ρ ρ' : Env0} {m : Str → Option Value} {E : Value → Shared → Prop}
/-- one statement, and on -/
theorem run_next {st : Stmt} {rest : List Stmt} {ms : MS} {Q : Flow → Shared → Prop} (h : XS S prog w L Γ cx ow st ms) (hr : rS Γ ow ms ρ = some (.nxt ρ')) (I : Inv S L cx ow env P₀ s₀ F hF A ρ s P m)
    (k : ∀ s' P' m', Inv S L cx ow env P₀ s₀ F hF A ρ' s' P' m' → wpAny (model prog w) A (execs rest env) Q E s') : wpAny (model prog w) A (execs (st :: rest) env) Q E s :=
  wpAny_execs_cons (wpAny_mono (h ρ _ env P₀ s₀ F hF A s P m E hr I) (fun f s' hp => by
    obtain ⟨hf, P', m', I'⟩ := hp
    subst hf
    exact k s' P' m' I') fun _ _ x => x)
/-- statements in a row -/
theorem run_list {sts : List Stmt} {mss : List MS} {Q : Flow → Shared → Prop} (h : XL S prog w L Γ cx ow sts mss) (hr : rL Γ ow mss ρ = some (.nxt ρ')) (I : Inv S L cx ow env P₀ s₀ F hF A ρ s P m)
    (k : ∀ s' P' m', Inv S L cx ow env P₀ s₀ F hF A ρ' s' P' m' → Q .next s') : wpAny (model prog w) A (execs sts env) Q E s :=
  wpAny_mono (h ρ _ env P₀ s₀ F hF A s P m E hr I) (fun f s' hp => by
    obtain ⟨hf, P', m', I'⟩ := hp
    subst hf
    exact k s' P' m' I') fun _ _ x => x
theorem keeps_with {sB s s' : Shared} (k1 : Keeps sB s) (k2 : Keeps sB s') (h : Heap) (tk : Nat) : ({ s with heap := h, toks := tk } : Shared) = { s' with heap := h, toks := tk } := by
  obtain ⟨_, _, e1, _⟩ := k1
  obtain ⟨_, _, e2, _⟩ := k2
  rw [e1, e2]
end
theorem cellsFrom_some {y : Str} : ∀ {names : List (Str × NameKind)} {k : Nat} {acc : List (Str × Addr)}, ((y, NameKind.cell) ∈ names ∨ (acc.lookup y).isSome = true) → ((cellsFrom k names acc).lookup y).isSome = true
  | [], _, _, h => by
    rcases h with h | h
    · cases h
    · exact h
  | (n, kind) :: r, k, acc, h => by
    unfold cellsFrom
    split
    · rename_i hk
      refine cellsFrom_some ?_
      by_cases hy : (y == n) = true
      · right; rw [List.lookup_cons, hy]; rfl
      · rcases h with h | h
        · rcases List.mem_cons.mp h with e | h
          · cases e; simp at hy
          · exact .inl h
        · right; rw [List.lookup_cons]; simp only [hy]; exact h
    · rename_i hk
      refine cellsFrom_some ?_
      rcases h with h | h
      · rcases List.mem_cons.mp h with e | h
        · cases e; exact absurd rfl hk
        · exact .inl h
      · exact .inr h
theorem mem_lookup {α : Type} {y : Str} {k : α} : ∀ {l : List (Str × α)}, l.lookup y = some k → (y, k) ∈ l
  | (n, j) :: r, h => by
    cases hy : y == n with
    | true => rw [List.lookup_cons, hy] at h; cases h; rw [beq_iff_eq.mp hy]; exact List.mem_cons_self
    | false => rw [List.lookup_cons, hy] at h; exact List.mem_cons_of_mem _ (mem_lookup h)

theorem bindL_none {kd : Str → Option NameKind} {x : Str} : ∀ {ps : List Str} {vs : List Value} {m : Str → Option Value}, x ∉ ps → bindL kd (ps.zip vs) m x = m x
  | [], _, _, _ => rfl
  | p :: ps, [], _, _ => rfl
  | p :: ps, v :: vs, m, h => by
    show bindL kd (ps.zip vs) _ x = _
    rw [bindL_none (fun q => h (List.mem_cons_of_mem _ q))]
    split
    · show (if x = p then some v else m x) = m x
      exact if_neg (fun q => h (by rw [q]; exact List.mem_cons_self))
    · rfl
theorem bindL_get {kd : Str → Option NameKind} {x : Str} {v : Value} : ∀ {ps : List Str} {vs : List Value} {m : Str → Option Value} {k : Nat}, ps.Nodup → ps[k]? = some x → vs[k]? = some v → kd x = some .local → bindL kd (ps.zip vs) m x = some v
  | [], _, _, _, _, h, _, _ => by simp at h
  | p :: ps, [], _, _, _, _, h, _ => by simp at h
  | p :: ps, u :: vs, m, k, hn, h1, h2, hk => by
    obtain ⟨n1, n2⟩ := List.nodup_cons.mp hn
    cases k with
    | zero =>
      simp at h1 h2; subst h1 h2
      show bindL kd (ps.zip vs) _ p = _
      rw [bindL_none n1, if_pos hk]
      exact if_pos rfl
    | succ k =>
      show bindL kd (ps.zip vs) _ x = _
      exact bindL_get n2 (by simpa using h1) (by simpa using h2) hk
theorem bindC_none {kd : Str → Option NameKind} {x : Str} : ∀ {ps : List Str} {vs : List Value} {m : Str → Option Value}, x ∉ ps → bindC kd (ps.zip vs) m x = m x
  | [], _, _, _ => rfl
  | p :: ps, [], _, _ => rfl
  | p :: ps, v :: vs, m, h => by
    show bindC kd (ps.zip vs) _ x = _
    rw [bindC_none (fun q => h (List.mem_cons_of_mem _ q))]
    split
    · rfl
    · show (if x = p then some v else m x) = m x
      exact if_neg (fun q => h (by rw [q]; exact List.mem_cons_self))
theorem bindC_get {kd : Str → Option NameKind} {x : Str} {v : Value} : ∀ {ps : List Str} {vs : List Value} {m : Str → Option Value} {k : Nat}, ps.Nodup → ps[k]? = some x → vs[k]? = some v → kd x = some .cell → bindC kd (ps.zip vs) m x = some v
  | [], _, _, _, _, h, _, _ => by simp at h
  | p :: ps, [], _, _, _, _, h, _ => by simp at h
  | p :: ps, u :: vs, m, k, hn, h1, h2, hk => by
    obtain ⟨n1, n2⟩ := List.nodup_cons.mp hn
    cases k with
    | zero =>
      simp at h1 h2; subst h1 h2
      show bindC kd (ps.zip vs) _ p = _
      rw [bindC_none n1, if_neg (by rw [hk]; decide)]
      exact if_pos rfl
    | succ k =>
      show bindC kd (ps.zip vs) _ x = _
      exact bindC_get n2 (by simpa using h1) (by simpa using h2) hk

theorem RepAll.length {S : Sys} {P : Addr → Prop} {h : Heap} {vs : List Value} {xs : List V} (r : RepAll S P h vs xs) : vs.length = xs.length := by
  induction r with
  | nil => rfl
  | cons _ _ ih => simp [ih]
theorem RepAll.get {S : Sys} {P : Addr → Prop} {h : Heap} {vs : List Value} {xs : List V} (r : RepAll S P h vs xs) : ∀ {k : Nat} {X : V}, xs[k]? = some X → ∃ v, vs[k]? = some v ∧ Rep S P h v X := by
  induction r with
  | nil => intro k X e; simp at e
  | @cons v vs x xs r _ ih =>
    intro k X e
    cases k with
    | zero => simp at e; subst e; exact ⟨v, rfl, r⟩
    | succ k => simpa using ih (by simpa using e)

/-- a function of the text, by its parts -/
structure FnAt (S : Sys) (k : Nat) (ps : List Str) (body : List Stmt) (cx : Cx) : Prop where
  obj : ∃ o fd, S.K.lookup (S.fv k) = some o ∧ o.data = .func fd ∧ fd.body = .stmts body ∧ fd.scope.names = cx.names ∧ fd.globals = mainGlobals ∧ fd.builtins = builtinsNs ∧ fd.closure = [] ∧
    fd.scope.kind = .function ∧ fd.scope.isCoroutine = false ∧ fd.scope.isGenerator = false ∧ (∀ h, S.K.In h → h.CodeRec fd.code fd.qualname) ∧ ∀ vals, vals.length = ps.length → bindArgs fd ⟨vals, []⟩ = pure (ps.zip vals)
  nd : ps.Nodup
  pk : ∀ x ∈ ps, cx.names.lookup x = some .local ∨ cx.names.lookup x = some .cell

theorem argsAt {args : List V} {j : Nat} {k : Nat} {X : V} (h : valAt (args.map some ++ List.replicate j none) k = some X) : args[k]? = some X := by
  unfold valAt at h
  split at h
  · rename_i v hv
    cases h
    by_cases hk : k < args.length
    · rw [List.getElem?_append_left (by simpa using hk), List.getElem?_map] at hv
      obtain ⟨y, h1, h2⟩ := Option.map_eq_some_iff.mp hv
      cases h2; exact h1
    · rw [List.getElem?_append_right (by simp; omega)] at hv
      have := List.mem_of_getElem? hv
      simp at this
  · cases h

/-- the frame of a call -/
theorem code_frame {k ow j : Nat} {ps : List Str} {body : List Stmt} {cx : Cx} {P : Addr → Prop} {s : Shared} {A : Around} {vals : List Value} {args : List V} {R' : Result → Shared → Prop}
    (fn : FnAt S k ps body cx) (nd : ∀ (k k' : Nat) (x : Str), cx.slots[k]? = some (some x) → cx.slots[k']? = some (some x) → k = k') (hsl : ∀ k x, ps[k]? = some x ↔ (k < ps.length ∧ cx.slots[k]? = some (some x))) (how : ps.length ≤ ow) (hpin : cx.pins = [])
    (R : Room (L + 1) A) (b : Base S s.heap) (r : RepAll S P s.heap vals args) (hlen : args.length = ps.length)
    (h : ∀ env s₁ m, Inv S L cx ow env P s (fun _ => False) s.heap (A.deeper env) (args.map some ++ List.replicate j none) s₁ (Liv P s) m → (∀ (k : Nat) (x : Str) (v : Value), ps[k]? = some x → vals[k]? = some v → Slot env s₁.heap m x v) →
      wpAny (model prog w) (A.deeper env) (execs body env) (fun f s' => R' (.ok (.ret (match f with | .ret v => v | _ => .none))) s') (fun _ _ => False) s₁) :
    codeAny (model prog w) A (.call (.ref (S.fv k)) ⟨vals, []⟩) R' s := by
  obtain ⟨o, fd, f1, f2, f3, f4, f5, f6, f7, f8, f9, f10, f11, f12⟩ := fn.obj
  have hvl : vals.length = ps.length := r.length.trans hlen
  have hd := R.depth
  have hu := R.units
  refine codeAny_call_cells (by show A.depth < 1000; omega) (b.kin _ _ f1) f2 b.lim (f11 _ b.kin) f3 (f12 vals hvl) f7 (fun x hx => ?_) (fun s₁ ic => ?_) f9 f10 f8
  · have hx' := (List.of_mem_zip hx).1
    rw [f4]
    rcases fn.pk _ hx' with h | h
    · exact .inl h
    · exact .inr ⟨h, cellsFrom_some (.inl (mem_lookup h))⟩
  · have frs := fresh_size s.heap
    have above : ∀ a, s.heap.objs.size ≤ a → s.heap.get? a = none := fun a ha => by
      cases e : s.heap.get? a with
      | none => rfl
      | some o => exact absurd (Heap.lt_size e) (Nat.not_lt.mpr ha)
    have hcl : ∀ n c, (callEnvC fd s.heap.objs.size (S.fv k)).cells.lookup n = some c → s.heap.objs.size < c := fun n c h => ic.above n c (mem_lookup h)
    have hko : ∀ y, Env.kindOf (callEnvC fd s.heap.objs.size (S.fv k)) y = cx.names.lookup y := fun y => by
      show fd.scope.names.lookup y = _
      rw [f4]
    have slot : ∀ (i : Nat) (x : Str) (v : Value), ps[i]? = some x → vals[i]? = some v → Slot (callEnvC fd s.heap.objs.size (S.fv k)) s₁.heap (bindL (callEnvC fd s.heap.objs.size (S.fv k)).kindOf (ps.zip vals) fun _ => none) x v := fun i x v hps hv => by
      rcases fn.pk x (List.mem_of_getElem? hps) with hq | hq
      · exact .inl ⟨(hko x).trans hq, bindL_get fn.nd hps hv ((hko x).trans hq)⟩
      · obtain ⟨c, hc⟩ := Option.isSome_iff_exists.mp (cellsFrom_some (k := s.heap.objs.size + 1) (acc := []) (.inl (by rw [f4]; exact mem_lookup hq)) : ((cellsFrom (s.heap.objs.size + 1) fd.scope.names []).lookup x).isSome = true)
        refine .inr ⟨(hko x).trans hq, c, hc, ?_⟩
        have := ic.cell x c hc
        rwa [bindC_get fn.nd hps hv ((hko x).trans hq)] at this
    refine wpAny_mono (h _ s₁ (bindL (callEnvC fd s.heap.objs.size (S.fv k)).kindOf (ps.zip vals) fun _ => none) ?_ slot) (fun f s' hq => hq) fun _ _ x => x.elim
    refine ⟨⟨f8, f4, f5, f6, fun n hn => ?_⟩, ?_, b, ⟨R.hd, ?_, ?_⟩, nd, frs, fun n c h => ⟨above c (Nat.le_of_lt (hcl n c h)), Nat.ne_of_gt (hcl n c h)⟩, fun n n' c h h' => name_of_addr ic.apart (mem_lookup h) (mem_lookup h'),
      fun a h => h.elim, fun a o h => h.elim, fun h => h, fun n c h q => q, fun a h => .inl h.1, fun a h => ?_, fun h => ?_, fun n c h q => ?_, ic.toInCall.ns, fun n c h => ⟨_, ic.cell n c h⟩, fun k' x X hk e1 e2 => ?_, fun x X e1 e2 => ?_, fun y u hy => by rw [hpin] at hy; cases hy⟩
    · exact cellsFrom_some (.inl (by rw [f4]; exact mem_lookup hn))
    · obtain ⟨h', tk, e⟩ := ic.toInCall.same
      exact ⟨h', tk, e, fun b o q => by have := ic.toInCall.keep b o q; rw [e] at this; exact this⟩
    · show A.depth + 1 + L ≤ 900
      omega
    · show A.units + 3 + 3 * L ≤ 9000
      omega
    · obtain ⟨o, e⟩ := h.2; exact ⟨o, ic.toInCall.keep _ _ e⟩
    · obtain ⟨o, e⟩ := h.2
      have e' : s.heap.get? s.heap.objs.size = some o := e
      rw [frs] at e'; cases e'
    · obtain ⟨o, e⟩ := q.2
      rw [above c (Nat.le_of_lt (hcl n c h))] at e; cases e
    · have hX := argsAt e2
      have hlt : k' < ps.length := by have := (List.getElem?_eq_some_iff.mp hX).1; omega
      have hps := (hsl k' x).mpr ⟨hlt, e1⟩
      obtain ⟨v, hv, hr⟩ := r.get hX
      exact ⟨v, slot k' x v hps hv, hr.mono (fun a o e p => ⟨p, o, e⟩) (.of_le ic.toInCall.keep)⟩
    · have := (List.getElem?_eq_some_iff.mp (argsAt e2)).1
      omega

theorem call_frame {k ow j : Nat} {ps : List Str} {body : List Stmt} {cx : Cx} {P : Addr → Prop} {s : Shared} {A : Around} {vals : List Value} {args : List V} {E : Value → Shared → Prop} {Q : Value → Shared → Prop}
    (fn : FnAt S k ps body cx) (nd : ∀ (k k' : Nat) (x : Str), cx.slots[k]? = some (some x) → cx.slots[k']? = some (some x) → k = k') (hsl : ∀ k x, ps[k]? = some x ↔ (k < ps.length ∧ cx.slots[k]? = some (some x))) (how : ps.length ≤ ow) (hpin : cx.pins = [])
    (R : Room (L + 1) A) (b : Base S s.heap) (r : RepAll S P s.heap vals args) (hlen : args.length = ps.length)
    (h : ∀ env s₁ m, Inv S L cx ow env P s (fun _ => False) s.heap (A.deeper env) (args.map some ++ List.replicate j none) s₁ (Liv P s) m → (∀ (k : Nat) (x : Str) (v : Value), ps[k]? = some x → vals[k]? = some v → Slot env s₁.heap m x v) →
      wpAny (model prog w) (A.deeper env) (execs body env) (fun f s' => Q (match f with | .ret v => v | _ => .none) s') (fun _ _ => False) s₁) :
    wpAny (model prog w) A (call (.ref (S.fv k)) vals) Q E s := wpAny_call (code_frame fn nd hsl how hpin R b r hlen h)

/-- a function whose body is compiled -/
theorem call_fn {n k ow j : Nat} {ps : List Str} {body : List Stmt} {mss : List MS} {cx : Cx} {P : Addr → Prop} {s : Shared} {A : Around} {vals : List Value} {args : List V} {d : PyData} (hΓ : GoodΓ S prog w L Γ)
    (fn : FnAt S k ps body cx) (nd : ∀ (k k' : Nat) (x : Str), cx.slots[k]? = some (some x) → cx.slots[k']? = some (some x) → k = k') (hsl : ∀ k x, ps[k]? = some x ↔ (k < ps.length ∧ cx.slots[k]? = some (some x))) (how : ps.length ≤ ow) (hpin : cx.pins = []) {nx : Nat}
    (hc : cL S.gt n nx cx ow body = some mss) (hr : rL Γ ow mss (args.map some ++ List.replicate j none) = some (.ret d) ∨ (d = .none ∧ ∃ ρ', rL Γ ow mss (args.map some ++ List.replicate j none) = some (.nxt ρ'))) (hlen : args.length = ps.length)
    (R : Room (L + 1) A) (b : Base S s.heap) (r : RepAll S P s.heap vals args) : EvOk prog w A (call (.ref (S.fv k)) vals) P s d := fun E => by
  refine call_frame (L := L) (ow := ow) (j := j) fn nd hsl how hpin R b r hlen fun env s₁ m I _ => ?_
  rcases hr with hr | ⟨rfl, ρ', hr⟩
  · refine wpAny_mono ((stmts_sound (sound hΓ) n).2 _ _ _ _ _ hc _ _ env P s _ _ _ s₁ _ m _ hr I) (fun f s' hp => ?_) fun _ _ x => x
    obtain ⟨v, rfl, hk, hv⟩ := hp
    exact ⟨hk, hv⟩
  · refine wpAny_mono ((stmts_sound (sound hΓ) n).2 _ _ _ _ _ hc _ _ env P s _ _ _ s₁ _ m _ hr I) (fun f s' hp => ?_) fun _ _ x => x
    obtain ⟨rfl, P', m', I'⟩ := hp
    exact ⟨I'.k, .none⟩
end
end Mine
end

section
open PySem PyProof.Rows PySem.W
set_option Elab.async false
set_option linter.unusedVariables false
namespace Mine
section
variable {Γ : Ctab} {ρ : Env0} {ow : Nat}
theorem evP_lit {d} : evP Γ ρ (.lit d) = (some d) := rfl
theorem evP_var {k} : evP Γ ρ (.var k) = (datAt ρ k) := rfl
theorem evP_bin {op a b} : evP Γ ρ (.bin op a b) = (match evP Γ ρ a, evP Γ ρ b with
    | some x, some y => binD op x y
    | _, _ => none) := rfl
theorem evP_neg {a} : evP Γ ρ (.neg a) = (match evP Γ ρ a with
    | some (.int i) => some (.int (-i))
    | _ => none) := rfl
theorem evP_not {a} : evP Γ ρ (.not a) = (match evP Γ ρ a with
    | some (.bool b) => some (.bool !b)
    | _ => none) := rfl
theorem evP_and {es} : evP Γ ρ (.and es) = ((evAnd Γ ρ es).map .bool) := rfl
theorem evP_or {es} : evP Γ ρ (.or es) = ((evOr Γ ρ es).map .bool) := rfl
theorem evP_ite {t a b} : evP Γ ρ (.ite t a b) = (match evP Γ ρ t with
    | some (.bool true) => evP Γ ρ a
    | some (.bool false) => evP Γ ρ b
    | _ => none) := rfl
theorem evP_list {es} : evP Γ ρ (.list es) = ((evDs Γ ρ es).map .list) := rfl
theorem evP_tup {es} : evP Γ ρ (.tup es) = ((evDs Γ ρ es).map .tuple) := rfl
theorem evP_cmp {op a b} : evP Γ ρ (.cmp op a b) = (match evP Γ ρ a, evP Γ ρ b with
    | some x, some y => (cmpD op x y).map .bool
    | _, _ => none) := rfl
theorem evP_cmp2 {o1 o2 a b c} : evP Γ ρ (.cmp2 o1 o2 a b c) = (match evP Γ ρ a, evP Γ ρ b with
    | some x, some y => match cmpD o1 x y with
      | some true => match evP Γ ρ c with
        | some z => (cmpD o2 y z).map .bool
        | none => none
      | some false => some (.bool false)
      | none => none
    | _, _ => none) := rfl
theorem evP_idx {a i} : evP Γ ρ (.idx a i) = (match evP Γ ρ a, evP Γ ρ i with
    | some x, some y => idxD x y
    | _, _ => none) := rfl
theorem evP_sl {a lo hi} : evP Γ ρ (.sl a lo hi) = (match evP Γ ρ a, evP Γ ρ lo, evP Γ ρ hi with
    | some x, some l, some u => slD x l u
    | _, _, _ => none) := rfl
theorem evP_rev {a} : evP Γ ρ (.rev a) = (match evP Γ ρ a with
    | some (.list xs) => some (.list xs.reverse)
    | _ => none) := rfl
theorem evP_call {f args} : evP Γ ρ (.call f args) = (match evAs Γ ρ args with
    | some vs => Γ f vs
    | none => none) := rfl
theorem evP_meth {f k args} : evP Γ ρ (.meth f k args) = (match valAt ρ k, evAs Γ ρ args with
    | some (.tab w m j), some vs => Γ f (.tab w m j :: vs)
    | _, _ => none) := rfl
theorem evP_attr {i k} : evP Γ ρ (.attr i k) = (match valAt ρ k with
    | some (.tab w m j) => if i = 0 then some w else if i = 1 then some m else if i = 2 then some j else none
    | _ => none) := rfl
theorem evP_len {a} : evP Γ ρ (.len a) = (match evP Γ ρ a with
    | some x => lenD x
    | none => none) := rfl
theorem evP_sum {a} : evP Γ ρ (.sum a) = (match evP Γ ρ a with
    | some (.list xs) => (sumInts xs).map .int
    | _ => none) := rfl
theorem evP_sumL {a} : evP Γ ρ (.sumL a) = (match evP Γ ρ a with
    | some (.list xs) => match sumLists xs with
      | some ys => if ys.length ≤ 1000000 then some (.list ys) else none
      | none => none
    | _ => none) := rfl
theorem evP_toInt {a} : evP Γ ρ (.toInt a) = (match evP Γ ρ a with
    | some (.int i) => some (.int i)
    | _ => none) := rfl
theorem evP_toList {a} : evP Γ ρ (.toList a) = (match evP Γ ρ a with
    | some x => (items x).map .list
    | none => none) := rfl
theorem evP_toTup {a} : evP Γ ρ (.toTup a) = (match evP Γ ρ a with
    | some x => (items x).map .tuple
    | none => none) := rfl
theorem evP_comp {k elt src test} : evP Γ ρ (.comp k elt src test) = (match evP Γ ρ src with
    | some x => match items x with
      | some xs => (compGo (fun d => evAnd Γ (ρ.set k (some (.dat d))) test) (fun d => evP Γ (ρ.set k (some (.dat d))) elt) xs).map .list
      | none => none
    | none => none) := rfl
theorem evP_rng {a} : evP Γ ρ (.rng a) = (match evP Γ ρ a with
    | some (.int n) => if n ≤ 1000000 ∧ -1000000000 ≤ n then some (.list ((List.range n.toNat).map fun (i : Nat) => PyData.int (i : Int))) else none
    | _ => none) := rfl
theorem evDs_nil : evDs Γ ρ ([]) = (some []) := rfl
theorem evDs_cons_ {e es} : evDs Γ ρ (e :: es) = (match evP Γ ρ e, evDs Γ ρ es with
    | some d, some ds => some (d :: ds)
    | _, _ => none) := rfl
theorem evAs_nil : evAs Γ ρ ([]) = (some []) := rfl
theorem evAs_cons_ {e es} : evAs Γ ρ (e :: es) = (match (match varOf e with | some k => valAt ρ k | none => (evP Γ ρ e).map .dat), evAs Γ ρ es with
    | some d, some ds => some (d :: ds)
    | _, _ => none) := rfl
theorem evAnd_nil : evAnd Γ ρ ([]) = (some true) := rfl
theorem evAnd_cons_ {e es} : evAnd Γ ρ (e :: es) = (match evP Γ ρ e with
    | some (.bool true) => evAnd Γ ρ es
    | some (.bool false) => some false
    | _ => none) := rfl
theorem evOr_nil : evOr Γ ρ ([]) = (some false) := rfl
theorem evOr_cons_ {e es} : evOr Γ ρ (e :: es) = (match evP Γ ρ e with
    | some (.bool true) => some true
    | some (.bool false) => evOr Γ ρ es
    | _ => none) := rfl
theorem rS_asg {k e} : rS Γ ow (.asg k e) ρ = (if k = ow then none else match evP Γ ρ e with
    | some d => some (.nxt (ρ.set k (some (.dat d))))
    | none => none) := rfl
theorem rS_unp {sw ks e} : rS Γ ow (.unp sw ks e) ρ = (if ks.contains ow then none else match evP Γ ρ e with
    | some (.tuple ds) => if ds.length = ks.length then some (.nxt (if sw then setAll ρ ks.reverse ds.reverse else setAll ρ ks ds)) else none
    | _ => none) := rfl
theorem rS_own : rS Γ ow (.own) ρ = (some (.nxt (ρ.set ow (some (.dat (.list [])))))) := rfl
theorem rS_own2 {k e} : rS Γ ow (.own2 k e) ρ = (if k = ow then none else match evP Γ ρ e with
    | some d => some (.nxt ((ρ.set k (some (.dat d))).set ow (some (.dat (.list [])))))
    | none => none) := rfl
theorem rS_aug {k op e} : rS Γ ow (.aug k op e) ρ = (if k = ow then none else match datAt ρ k, evP Γ ρ e with
    | some x, some y => (match augD op x y with
      | some d => some (.nxt (ρ.set k (some (.dat d))))
      | none => none)
    | _, _ => none) := rfl
theorem rS_ret {e} : rS Γ ow (.ret e) ρ = ((evP Γ ρ e).map .ret) := rfl
theorem rS_ite {t a b} : rS Γ ow (.ite t a b) ρ = (match evP Γ ρ t with
    | some (.bool true) => rL Γ ow a ρ
    | some (.bool false) => rL Γ ow b ρ
    | _ => none) := rfl
theorem rS_for1 {k src body} : rS Γ ow (.for1 k src body) ρ = (if k = ow then none else match evP Γ ρ src with
    | some x => (match items x with
      | some xs => forGo (fun d ρ => rL Γ ow body (ρ.set k (some (.dat d)))) xs ρ
      | none => none)
    | none => none) := rfl
theorem rS_whl {t body} : rS Γ ow (.whl t body) ρ = (whlGo (fun ρ => boolD (evP Γ ρ t)) (fun ρ => rL Γ ow body ρ) 1000 ρ) := rfl
theorem rS_push {e} : rS Γ ow (.push e) ρ = (match ownXs ρ ow, evP Γ ρ e with
    | some xs, some d => if flat d = true ∧ xs.length < 1000000 then some (.nxt (ρ.set ow (some (.dat (.list (xs ++ [d])))))) else none
    | _, _ => none) := rfl
theorem rS_ext {e} : rS Γ ow (.ext e) ρ = (match ownXs ρ ow, evP Γ ρ e with
    | some xs, some x => (match items x with
      | some ys => if flatAll ys = true ∧ xs.length + ys.length ≤ 1000000 then some (.nxt (ρ.set ow (some (.dat (.list (xs ++ ys)))))) else none
      | none => none)
    | _, _ => none) := rfl
theorem rS_err : rS Γ ow (.err) ρ = (none) := rfl
theorem rS_drop {e} : rS Γ ow (.drop e) ρ = (match evP Γ ρ e with
    | some .none => some (.nxt ρ)
    | _ => none) := rfl
theorem rS_forE {kp kf kl src body} : rS Γ ow (.forE kp kf kl src body) ρ = (if [kp, kf, kl].contains ow then none else match evP Γ ρ src with
    | some (.list xs) => if xs.all isPairD then forGoT (fun ds ρ => rL Γ ow body (bdE kp kf kl ρ ds)) (enumE 0 xs) ρ else none
    | _ => none) := rfl
theorem rS_forZ {k1 k2 a b body} : rS Γ ow (.forZ k1 k2 a b body) ρ = (if [k1, k2].contains ow then none else match evP Γ ρ a, evP Γ ρ b with
    | some (.list xs), some (.list ys) => if xs.all isListD then forGoT (fun ds ρ => rL Γ ow body (setAll ρ [k1, k2] ds)) (List.zipWith (fun x y => [x, y]) xs ys) ρ else none
    | _, _ => none) := rfl
theorem rS_setL {e} : rS Γ ow (.setL e) ρ = (match ownXs ρ ow, evP Γ ρ e with
    | some xs, some d => if flat d = true ∧ xs ≠ [] then some (.nxt (ρ.set ow (some (.dat (.list (xs.set (xs.length - 1) d)))))) else none
    | _, _ => none) := rfl
theorem rL_nil : rL Γ ow ([]) ρ = (some (.nxt ρ)) := rfl
theorem rL_cons_ {m r} : rL Γ ow (m :: r) ρ = (match rS Γ ow m ρ with
    | some (.nxt ρ') => rL Γ ow r ρ'
    | some (.ret d) => some (.ret d)
    | none => none) := rfl
theorem binD_1 {a b} : binD (.add) (.int a) (.int b) = (some (.int (a + b))) := rfl
theorem binD_2 {xs ys} : binD (.add) (.tuple xs) (.tuple ys) = (if xs.length + ys.length ≤ 1000000 ∧ xs ≠ [] ∧ ys ≠ [] then some (.tuple (xs ++ ys)) else none) := rfl
theorem binD_3 {xs ys} : binD (.add) (.list xs) (.list ys) = (if xs.length + ys.length ≤ 1000000 then some (.list (xs ++ ys)) else none) := rfl
theorem binD_4 {a b} : binD (.sub) (.int a) (.int b) = (some (.int (a - b))) := rfl
theorem binD_5 {a b} : binD (.mul) (.int a) (.int b) = (if small a && small b then some (.int (a * b)) else none) := rfl
theorem binD_6 {a b} : binD (.fdiv) (.int a) (.int b) = (if small a && small b && (b != 0) then some (.int (a.fdiv b)) else none) := rfl
theorem binD_7 {a b} : binD (.mod) (.int a) (.int b) = (if b = 0 then none else some (.int (a.fmod b))) := rfl
theorem binD_8 {a b} : binD (.pow) (.int a) (.int b) = (if small a && decide (0 ≤ b) && decide (b ≤ 1000) then some (.int (a ^ b.toNat)) else none) := rfl
theorem cmpD_1 {a b} : cmpD (.lt) (.int a) (.int b) = (some (decide (a < b))) := rfl
theorem cmpD_2 {a b} : cmpD (.le) (.int a) (.int b) = (some (decide (a ≤ b))) := rfl
theorem cmpD_3 {a b} : cmpD (.gt) (.int a) (.int b) = (some (decide (b < a))) := rfl
theorem cmpD_4 {x y} : cmpD (.eq) (x) (y) = (if min x.depth y.depth ≤ 64 then some (PyData.eqv x y) else none) := rfl
theorem cmpD_5 {x y} : cmpD (.ne) (x) (y) = (if min x.depth y.depth ≤ 64 then some (!PyData.eqv x y) else none) := rfl
theorem cmpD_6 {x ys} : cmpD (.isin) (x) (.tuple ys) = (if min (PyData.depthAll ys) x.depth ≤ 64 then some (ys.any fun y => PyData.eqv y x) else none) := rfl
theorem cmpD_7 {x ys} : cmpD (.isin) (x) (.list ys) = (if min (PyData.depthAll ys) x.depth ≤ 64 then some (ys.any fun y => PyData.eqv y x) else none) := rfl
theorem cmpD_8 {x ys} : cmpD (.notin) (x) (.tuple ys) = (if min (PyData.depthAll ys) x.depth ≤ 64 then some (!ys.any fun y => PyData.eqv y x) else none) := rfl
theorem cmpD_9 {x ys} : cmpD (.notin) (x) (.list ys) = (if min (PyData.depthAll ys) x.depth ≤ 64 then some (!ys.any fun y => PyData.eqv y x) else none) := rfl
theorem idxD_1 {xs i} : idxD (.list xs) (.int i) = (pyGet xs i) := rfl
theorem idxD_2 {xs i} : idxD (.tuple xs) (.int i) = (pyGet xs i) := rfl
theorem partD_1 : partD (.none) = (some none) := rfl
theorem partD_2 {i} : partD (.int i) = (some (some i)) := rfl
theorem lenD_1 {xs} : lenD (.list xs) = (some (.int xs.length)) := rfl
theorem lenD_2 {xs} : lenD (.tuple xs) = (some (.int xs.length)) := rfl
theorem items_1 {xs} : items (.list xs) = (some xs) := rfl
theorem items_2 {xs} : items (.tuple xs) = (some xs) := rfl
theorem augD_1 {a b} : augD (.add) (.int a) (.int b) = (some (.int (a + b))) := rfl
theorem augD_2 {a b} : augD (.sub) (.int a) (.int b) = (some (.int (a - b))) := rfl
theorem varOf_lit {d} : varOf (.lit d) = (none) := rfl
theorem varOf_var {k} : varOf (.var k) = (some k) := rfl
theorem varOf_bin {op a b} : varOf (.bin op a b) = (none) := rfl
theorem varOf_neg {a} : varOf (.neg a) = (none) := rfl
theorem varOf_not {a} : varOf (.not a) = (none) := rfl
theorem varOf_and {es} : varOf (.and es) = (none) := rfl
theorem varOf_or {es} : varOf (.or es) = (none) := rfl
theorem varOf_ite {t a b} : varOf (.ite t a b) = (none) := rfl
theorem varOf_list {es} : varOf (.list es) = (none) := rfl
theorem varOf_tup {es} : varOf (.tup es) = (none) := rfl
theorem varOf_cmp {op a b} : varOf (.cmp op a b) = (none) := rfl
theorem varOf_cmp2 {op1 op2 a b c} : varOf (.cmp2 op1 op2 a b c) = (none) := rfl
theorem varOf_idx {a i} : varOf (.idx a i) = (none) := rfl
theorem varOf_sl {a lo hi} : varOf (.sl a lo hi) = (none) := rfl
theorem varOf_rev {a} : varOf (.rev a) = (none) := rfl
theorem varOf_call {f args} : varOf (.call f args) = (none) := rfl
theorem varOf_meth {f k args} : varOf (.meth f k args) = (none) := rfl
theorem varOf_attr {i k} : varOf (.attr i k) = (none) := rfl
theorem varOf_len {a} : varOf (.len a) = (none) := rfl
theorem varOf_sum {a} : varOf (.sum a) = (none) := rfl
theorem varOf_sumL {a} : varOf (.sumL a) = (none) := rfl
theorem varOf_toInt {a} : varOf (.toInt a) = (none) := rfl
theorem varOf_toList {a} : varOf (.toList a) = (none) := rfl
theorem varOf_toTup {a} : varOf (.toTup a) = (none) := rfl
theorem varOf_comp {k elt src test} : varOf (.comp k elt src test) = (none) := rfl
theorem varOf_rng {a} : varOf (.rng a) = (none) := rfl
end
end Mine
end

section
open PySem PyProof.Rows PySem.W
set_option Elab.async false
set_option linter.unusedVariables false
namespace Mine

/-- a def of the text -/
structure DefRow where
  args : Arguments
  body : List Stmt
  scope : Scope
noncomputable def DefRow.none : DefRow := ⟨⟨[], [], .none, [], [], .none, []⟩, [], { kind := .function, names := [], isGenerator := false, isCoroutine := false }⟩
noncomputable def rowIn (name : Str) : List Stmt → DefRow
  | [] => DefRow.none
  | .FunctionDef n args body _ _ _ scope _ _ _ :: r => if n == name then ⟨args, body, scope⟩ else rowIn name r
  | _ :: r => rowIn name r
noncomputable def clsIn' (cls name : Str) : List Stmt → DefRow
  | [] => DefRow.none
  | .ClassDef n _ _ body _ _ _ _ _ _ _ :: r => if n == cls then rowIn name body else clsIn' cls name r
  | _ :: r => clsIn' cls name r
noncomputable def top : List Stmt := PySem.Challenge.pw_og0238_01.main.body
noncomputable def fnRow (s : Str) : DefRow := rowIn s top
noncomputable def methRow (c s : Str) : DefRow := clsIn' c s top
structure DefOf where
  body : List Stmt
  names : List (Str × NameKind)
  ps : List Str
noncomputable def DefRow.d (r : DefRow) : DefOf := ⟨r.body, r.scope.names, r.args.args.map (·.arg)⟩
noncomputable def ofName (s : String) : DefOf := (fnRow (Str.ofString s)).d
noncomputable def ofMeth (s : String) : DefOf := (methRow (Str.ofString "WidthTable") (Str.ofString s)).d

noncomputable def theGT : GT := {
  dat := [(Str.ofString "WIDTH_JOINER", .int 8205), (Str.ofString "WIDTH_PICTURE", .int 65039), (Str.ofString "WIDTH_KEYCAP", .int 8419), (Str.ofString "FIRST_MODIFIER", .int 127995), (Str.ofString "LAST_MODIFIER", .int 127999),
    (Str.ofString "FIRST_REGION", .int 127462), (Str.ofString "LAST_REGION", .int 127487),
    (Str.ofString "_law_sorts", .tuple ([97, 769, 8205, 65039, 8419, 127995, 127462, 127487, 128000, 10084, 19968, 51].map .int)), (Str.ofString "_law_marks", .tuple ([769, 8205, 65039, 8419].map .int)), (Str.ofString "_law_regions", .tuple ([127462, 127487].map .int)), (Str.ofString "_law_pictures", .tuple ([128000, 10084].map .int))],
  fn := [(Str.ofString "width_in_ranges", 62), (Str.ofString "width_check_ranges", 69), (Str.ofString "is_region", 111), (Str.ofString "is_modifier", 118), (Str.ofString "width_bare", 125), (Str.ofString "joins", 130), (Str.ofString "cluster_width", 135), (Str.ofString "split_clusters", 142),
    (Str.ofString "codes_width", 147), (Str.ofString "cells_of_codes", 154), (Str.ofString "codes_cut", 161), (Str.ofString "codes_cut_ahead", 168), (Str.ofString "_law_wide", 186), (Str.ofString "_law_begins", 198), (Str.ofString "_law_parts", 203),
    (Str.ofString "_law_takes", 208), (Str.ofString "_law_longest", 213)],
  meth := [(Str.ofString "width_of", 90), (Str.ofString "is_picture", 97)] }

/-- the slots: the parameters, the other names of the frame, three for comprehensions -/
noncomputable def slotsOf (d : DefOf) : List (Option Str) :=
  d.ps.map some ++ ((d.names.filter fun x => (x.2 == .local || x.2 == .cell) && !d.ps.contains x.1).map fun x => some x.1) ++ [none, none, none]
noncomputable def cxOf (d : DefOf) : Cx := { names := d.names, slots := slotsOf d }
noncomputable def nxOf (d : DefOf) : Nat := (slotsOf d).length - 3
noncomputable def owOf (d : DefOf) (x : String) : Nat := (slotOf (slotsOf d) (Str.ofString x)).getD 99
noncomputable def comp (d : DefOf) (x : String) : Option (List MS) := cL theGT 40 (nxOf d) (cxOf d) (owOf d x) d.body

end Mine
end

section
open PySem PyProof.Rows PySem.W
set_option Elab.async false
set_option linter.unusedVariables false
set_option maxRecDepth 100000
namespace Mine
noncomputable def ms_ranges : List MS := [.unp true [2, 3] (.tup [(.lit (.int 0)), (.len (.var 0))]), .whl (.cmp .lt (.var 2) (.var 3)) [.asg 4 (.bin .fdiv (.bin .add (.var 2) (.var 3)) (.lit (.int 2))), .ite (.cmp .lt (.idx (.idx (.var 0) (.var 4)) (.lit (.int 1))) (.var 1)) [.asg 2 (.bin .add (.var 4) (.lit (.int 1)))] [.asg 3 (.var 4)]], .ret (.and [(.cmp .lt (.var 2) (.len (.var 0))), (.cmp .le (.idx (.idx (.var 0) (.var 2)) (.lit (.int 0))) (.var 1))])]
theorem comp_ranges : comp (ofName "width_in_ranges") "" = some ms_ranges := by kernel_rfl
noncomputable def ms_check : List MS := [.asg 1 (.neg (.lit (.int 1))), .forE 2 3 4 (.var 0) [.ite (.not (.cmp2 .lt .le (.var 1) (.var 3) (.var 4))) [.err] [], .asg 1 (.var 4)]]
theorem comp_check : comp (ofName "width_check_ranges") "" = some ms_check := by kernel_rfl
noncomputable def ms_widthOf : List MS := [.ite (.call 62 [(.attr 1 0), (.var 1)]) [.ret (.lit (.int 0))] [], .ret (.ite (.call 62 [(.attr 0 0), (.var 1)]) (.lit (.int 2)) (.lit (.int 1)))]
theorem comp_widthOf : comp (ofMeth "width_of") "" = some ms_widthOf := by kernel_rfl
noncomputable def ms_isPic : List MS := [.ret (.call 62 [(.attr 2 0), (.var 1)])]
theorem comp_isPic : comp (ofMeth "is_picture") "" = some ms_isPic := by kernel_rfl
noncomputable def ms_isReg : List MS := [.ret (.cmp2 .le .le (.lit (.int 127462)) (.var 0) (.lit (.int 127487)))]
theorem comp_isReg : comp (ofName "is_region") "" = some ms_isReg := by kernel_rfl
noncomputable def ms_isMod : List MS := [.ret (.cmp2 .le .le (.lit (.int 127995)) (.var 0) (.lit (.int 127999)))]
theorem comp_isMod : comp (ofName "is_modifier") "" = some ms_isMod := by kernel_rfl
noncomputable def ms_bare : List MS := [.ret (.ite (.and [(.cmp .gt (.len (.var 0)) (.lit (.int 1))), (.cmp .eq (.idx (.var 0) (.neg (.lit (.int 1)))) (.lit (.int 65039)))]) (.idx (.var 0) (.neg (.lit (.int 2)))) (.idx (.var 0) (.neg (.lit (.int 1)))))]
theorem comp_bare : comp (ofName "width_bare") "" = some ms_bare := by kernel_rfl
noncomputable def ms_joins : List MS := [.ite (.cmp .eq (.len (.var 0)) (.lit (.int 0))) [.ret (.lit (.bool false))] [], .ite (.cmp .eq (.meth 90 2 [(.var 1)]) (.lit (.int 0))) [.ret (.lit (.bool true))] [], .ite (.call 111 [(.var 1)]) [.ret (.and [(.call 111 [(.idx (.var 0) (.neg (.lit (.int 1))))]), (.cmp .eq (.len (.comp 3 (.var 3) (.var 0) [(.call 111 [(.var 3)])])) (.lit (.int 1)))])] [], .ite (.call 118 [(.var 1)]) [.ret (.meth 97 2 [(.call 125 [(.var 0)])])] [], .ret (.and [(.cmp .eq (.idx (.var 0) (.neg (.lit (.int 1)))) (.lit (.int 8205))), (.meth 97 2 [(.var 1)]), (.meth 97 2 [(.idx (.var 0) (.lit (.int 0)))])])]
theorem comp_joins : comp (ofName "joins") "" = some ms_joins := by kernel_rfl
noncomputable def ms_cw : List MS := [.ite (.cmp .eq (.len (.var 0)) (.lit (.int 0))) [.ret (.lit (.int 1))] [], .ite (.or [(.cmp .eq (.meth 90 1 [(.idx (.var 0) (.lit (.int 0)))]) (.lit (.int 2))), (.cmp .gt (.len (.comp 2 (.var 2) (.var 0) [(.call 111 [(.var 2)])])) (.lit (.int 1)))]) [.ret (.lit (.int 2))] [], .ite (.and [(.cmp .isin (.lit (.int 65039)) (.var 0)), (.meth 97 1 [(.idx (.var 0) (.lit (.int 0)))])]) [.ret (.lit (.int 2))] [], .ret (.ite (.cmp .eq (.toTup (.sl (.var 0) (.neg (.lit (.int 2))) (.lit .none))) (.tup [(.lit (.int 65039)), (.lit (.int 8419))])) (.lit (.int 2)) (.lit (.int 1)))]
theorem comp_cw : comp (ofName "cluster_width") "" = some ms_cw := by kernel_rfl
noncomputable def ms_split : List MS := [.own, .for1 3 (.var 0) [.ite (.and [(.cmp .ne (.var 2) (.list [])), (.call 130 [(.idx (.var 2) (.neg (.lit (.int 1)))), (.var 3), (.var 1)])]) [.setL (.bin .add (.idx (.var 2) (.neg (.lit (.int 1)))) (.tup [(.var 3)]))] [.push (.tup [(.var 3)])]], .ret (.var 2)]
theorem comp_split : comp (ofName "split_clusters") "found" = some ms_split := by kernel_rfl
noncomputable def ms_cwid : List MS := [.ret (.sum (.comp 2 (.call 135 [(.var 2), (.var 1)]) (.call 142 [(.var 0), (.var 1)]) []))]
theorem comp_cwid : comp (ofName "codes_width") "" = some ms_cwid := by kernel_rfl
noncomputable def ms_cells : List MS := [.own, .for1 4 (.call 142 [(.var 0), (.var 2)]) [.asg 5 (.call 135 [(.var 4), (.var 2)]), .push (.tup [(.var 4), (.var 5), (.var 1), (.lit (.bool false))]), .ite (.cmp .eq (.var 5) (.lit (.int 2))) [.push (.tup [(.tup []), (.lit (.int 0)), (.var 1), (.lit (.bool false))])] []], .ret (.var 3)]
theorem comp_cells : comp (ofName "cells_of_codes") "found" = some ms_cells := by kernel_rfl
noncomputable def ms_cut : List MS := [.own2 4 (.var 1), .for1 5 (.call 142 [(.var 0), (.var 2)]) [.aug 4 .sub (.call 135 [(.var 5), (.var 2)]), .ite (.cmp .lt (.var 4) (.lit (.int 0))) [.ret (.var 3)] [], .ext (.var 5)], .ret (.var 3)]
theorem comp_cut : comp (ofName "codes_cut") "found" = some ms_cut := by kernel_rfl
noncomputable def ms_ahead : List MS := [.unp true [3, 4, 5] (.tup [(.call 142 [(.var 0), (.var 2)]), (.var 1), (.lit (.int 0))]), .whl (.and [(.cmp .lt (.var 5) (.len (.var 3))), (.cmp .le (.call 135 [(.idx (.var 3) (.bin .sub (.neg (.lit (.int 1))) (.var 5))), (.var 2)]) (.var 4))]) [.aug 4 .sub (.call 135 [(.idx (.var 3) (.bin .sub (.neg (.lit (.int 1))) (.var 5))), (.var 2)]), .aug 5 .add (.lit (.int 1))], .own, .for1 7 (.sl (.var 3) (.bin .sub (.len (.var 3)) (.var 5)) (.lit .none)) [.ext (.var 7)], .ret (.var 6)]
theorem comp_ahead : comp (ofName "codes_cut_ahead") "found" = some ms_ahead := by kernel_rfl
noncomputable def ms_wide : List MS := [.ite (.cmp .eq (.var 0) (.lit (.int 0))) [.ret (.tup [(.tup [(.lit (.int 19968)), (.lit (.int 128000))]), (.list [(.tup [(.lit (.int 19968)), (.lit (.int 19968))]), (.tup [(.lit (.int 128000)), (.lit (.int 128015))])])])] [], .ite (.cmp .eq (.var 0) (.lit (.int 1))) [.ret (.tup [(.tup []), (.list [])])] [], .ret (.tup [(.tup [(.lit (.int 97)), (.lit (.int 19968)), (.lit (.int 127462)), (.lit (.int 127487)), (.lit (.int 127995))]), (.list [(.tup [(.lit (.int 97)), (.lit (.int 97))]), (.tup [(.lit (.int 19968)), (.lit (.int 19983))]), (.tup [(.lit (.int 127462)), (.lit (.int 127487))]), (.tup [(.lit (.int 127995)), (.lit (.int 127999))])])])]
theorem comp_wide : comp (ofName "_law_wide") "" = some ms_wide := by kernel_rfl
noncomputable def ms_begins : List MS := [.asg 2 (.idx (.var 0) (.var 1)), .ite (.cmp .eq (.var 1) (.lit (.int 0))) [.ret (.lit (.bool true))] [], .ite (.cmp .isin (.var 2) (.lit (.tuple [(.int 769), (.int 8205), (.int 65039), (.int 8419)]))) [.ret (.lit (.bool false))] [], .asg 3 (.bin .sub (.var 1) (.lit (.int 1))), .whl (.not (.call 198 [(.var 0), (.var 3)])) [.asg 3 (.bin .sub (.var 3) (.lit (.int 1)))], .ite (.cmp .isin (.var 2) (.lit (.tuple [(.int 128000), (.int 10084)]))) [.ret (.or [(.cmp .ne (.idx (.var 0) (.bin .sub (.var 1) (.lit (.int 1)))) (.lit (.int 8205))), (.cmp .notin (.idx (.var 0) (.var 3)) (.lit (.tuple [(.int 128000), (.int 10084)])))])] [], .ite (.cmp .eq (.var 2) (.lit (.int 127995))) [.asg 4 (.ite (.and [(.cmp .eq (.idx (.var 0) (.bin .sub (.var 1) (.lit (.int 1)))) (.lit (.int 65039))), (.cmp .gt (.bin .sub (.var 1) (.lit (.int 1))) (.var 3))]) (.idx (.var 0) (.bin .sub (.var 1) (.lit (.int 2)))) (.idx (.var 0) (.bin .sub (.var 1) (.lit (.int 1))))), .ret (.cmp .notin (.var 4) (.lit (.tuple [(.int 128000), (.int 10084)])))] [], .ret (.or [(.cmp .notin (.var 2) (.lit (.tuple [(.int 127462), (.int 127487)]))), (.cmp .notin (.sl (.var 0) (.var 3) (.var 1)) (.comp 5 (.list [(.var 5)]) (.lit (.tuple [(.int 127462), (.int 127487)])) []))])]
theorem comp_begins : comp (ofName "_law_begins") "" = some ms_begins := by kernel_rfl
noncomputable def ms_parts : List MS := [.asg 1 (.bin .add (.comp 2 (.var 2) (.rng (.len (.var 0))) [(.call 198 [(.var 0), (.var 2)])]) (.list [(.len (.var 0))])), .ret (.comp 2 (.sl (.var 0) (.idx (.var 1) (.var 2)) (.idx (.var 1) (.bin .add (.var 2) (.lit (.int 1))))) (.rng (.bin .sub (.len (.var 1)) (.lit (.int 1)))) [])]
theorem comp_parts : comp (ofName "_law_parts") "" = some ms_parts := by kernel_rfl
noncomputable def ms_takes : List MS := [.ite (.and [(.cmp .isin (.idx (.var 0) (.lit (.int 0))) (.var 1)), (.cmp .notin (.idx (.var 0) (.lit (.int 0))) (.lit (.tuple [(.int 769), (.int 8205), (.int 65039), (.int 8419)])))]) [.ret (.lit (.int 2))] [], .ite (.cmp .eq (.len (.comp 2 (.var 2) (.var 0) [(.cmp .isin (.var 2) (.lit (.tuple [(.int 127462), (.int 127487)])))])) (.lit (.int 2))) [.ret (.lit (.int 2))] [], .ite (.or [(.and [(.cmp .isin (.idx (.var 0) (.lit (.int 0))) (.lit (.tuple [(.int 128000), (.int 10084)]))), (.cmp .isin (.lit (.int 65039)) (.var 0))]), (.cmp .eq (.sl (.var 0) (.neg (.lit (.int 2))) (.lit .none)) (.list [(.lit (.int 65039)), (.lit (.int 8419))]))]) [.ret (.lit (.int 2))] [], .ret (.lit (.int 1))]
theorem comp_takes : comp (ofName "_law_takes") "" = some ms_takes := by kernel_rfl
noncomputable def ms_longest : List MS := [.asg 3 (.comp 4 (.var 4) (.rng (.bin .add (.len (.var 0)) (.lit (.int 1)))) [(.cmp .le (.sum (.comp 5 (.call 208 [(.var 5), (.var 1)]) (.sl (.var 0) (.lit .none) (.var 4)) [])) (.var 2))]), .ret (.sl (.var 0) (.lit .none) (.idx (.var 3) (.neg (.lit (.int 1)))))]
theorem comp_longest : comp (ofName "_law_longest") "" = some ms_longest := by kernel_rfl

/-- body, own slot, slots behind the arguments, arguments -/
noncomputable def entTab : List (Nat × List MS × Nat × Nat × Nat) := [(62, ms_ranges, 99, 6, 2), (69, ms_check, 99, 7, 1), (90, ms_widthOf, 99, 3, 2), (97, ms_isPic, 99, 3, 2), (111, ms_isReg, 99, 3, 1), (118, ms_isMod, 99, 3, 1), (125, ms_bare, 99, 3, 1), (130, ms_joins, 99, 3, 3), (135, ms_cw, 99, 3, 2), (142, ms_split, 2, 5, 2), (147, ms_cwid, 99, 3, 2), (154, ms_cells, 3, 6, 3), (161, ms_cut, 3, 6, 3), (168, ms_ahead, 6, 8, 3), (186, ms_wide, 99, 3, 1), (198, ms_begins, 99, 6, 2), (203, ms_parts, 99, 4, 1), (208, ms_takes, 99, 3, 2), (213, ms_longest, 99, 4, 3)]
noncomputable def entry (k : Nat) : Option (List MS × Nat × Nat × Nat) := entTab.lookup k

noncomputable def Γs : Nat → Ctab
  | 0, _, _ => none
  | n + 1, k, args => match entry k with
    | some (ms, ow, j, ar) => if args.length = ar then (match rL (Γs n) ow ms (args.map some ++ List.replicate j none) with
      | some (.ret d) => some d
      | some (.nxt _) => some .none
      | none => none) else none
    | none => none

noncomputable def ndB : List (Option Str) → Bool
  | [] => true
  | none :: r => ndB r
  | some x :: r => !r.contains (some x) && ndB r
theorem ndB_spec : ∀ {l : List (Option Str)}, ndB l = true → ∀ (k k' : Nat) (x : Str), l[k]? = some (some x) → l[k']? = some (some x) → k = k'
  | [], _, k, k', x, h, _ => by simp at h
  | none :: r, hn, k, k', x, h, h' => by
    cases k with
    | zero => simp at h
    | succ k => cases k' with
      | zero => simp at h'
      | succ k' => rw [ndB_spec (l := r) hn k k' x (by simpa using h) (by simpa using h')]
  | some y :: r, hn, k, k', x, h, h' => by
    unfold ndB at hn
    simp only [Bool.and_eq_true, Bool.not_eq_true'] at hn
    have no : ∀ j : Nat, r[j]? = some (some y) → False := fun j e => by
      have := List.mem_of_getElem? e
      rw [← List.contains_iff_mem] at this
      rw [this] at hn; simp at hn
    cases k with
    | zero =>
      simp at h; subst h
      cases k' with
      | zero => rfl
      | succ k' => exact (no k' (by simpa using h')).elim
    | succ k => cases k' with
      | zero => simp at h'; subst h'; exact (no k (by simpa using h)).elim
      | succ k' => rw [ndB_spec (l := r) hn.2 k k' x (by simpa using h) (by simpa using h')]

theorem slots_spec (d : DefOf) : ∀ (k : Nat) (x : Str), d.ps[k]? = some x ↔ (k < d.ps.length ∧ (slotsOf d)[k]? = some (some x)) := by
  intro k x
  unfold slotsOf
  constructor
  · intro h
    have hk := (List.getElem?_eq_some_iff.mp h).1
    refine ⟨hk, ?_⟩
    rw [List.append_assoc, List.getElem?_append_left (by simpa using hk), List.getElem?_map, h]; rfl
  · rintro ⟨hk, h⟩
    rw [List.append_assoc, List.getElem?_append_left (by simpa using hk), List.getElem?_map] at h
    obtain ⟨y, h1, h2⟩ := Option.map_eq_some_iff.mp h
    cases h2; exact h1

/-- what is to be known of an entry -/
structure EntOk (S : Sys) (k : Nat) (ms : List MS) (ow j ar : Nat) : Prop where
  ex : ∃ (d : DefOf) (x : String), FnAt S k d.ps d.body (cxOf d) ∧ comp d x = some ms ∧ ow = owOf d x ∧ ar = d.ps.length ∧ ndB (slotsOf d) = true ∧ d.ps.length ≤ ow

theorem good {S : Sys} {prog : Program} {w : World} (hgt : S.gt = theGT) (hent : ∀ k ms ow j ar, entry k = some (ms, ow, j, ar) → EntOk S k ms ow j ar) : ∀ n, GoodΓ S prog w n (Γs n)
  | 0 => fun k vs d h => by simp [Γs] at h
  | n + 1 => by
    intro k vs d h A P s args R b r
    unfold Γs at h
    split at h
    · rename_i ms ow j ar he
      obtain ⟨dd, x, f1, f2, f3, f4, f5, f6⟩ := (hent _ _ _ _ _ he).ex
      split at h
      · rename_i hl
        split at h
        · rename_i d' hr
          cases h
          unfold comp at f2
          rw [← hgt, ← f3] at f2
          exact call_fn (j := j) (good hgt hent n) f1 (ndB_spec f5) (slots_spec dd) f6 rfl f2 (.inl hr) (hl.trans f4) R b r
        · rename_i ρ' hr
          cases h
          unfold comp at f2
          rw [← hgt, ← f3] at f2
          exact call_fn (j := j) (good hgt hent n) f1 (ndB_spec f5) (slots_spec dd) f6 rfl f2 (.inr ⟨rfl, ρ', hr⟩) (hl.trans f4) R b r
        · cases h
      · cases h
    · cases h
end Mine
end

section
open PySem PyProof.Rows PySem.W
set_option Elab.async false
set_option linter.unusedVariables false
set_option maxRecDepth 100000
namespace Mine

/-- a row of a dict -/
structure KE where
  k : Str
  t : Nat
  v : Value
noncomputable def dictK (P : Params) (n : Nat) (es : List KE) : Obj := { cls := .type "dict", data := .dict (es.map fun e => ⟨PyData.keyHash P e.k, .str e.k e.t, e.v⟩).toArray n }

noncomputable def globK (P : Params) : Obj := dictK P 43 [⟨Str.ofString "__name__", 165, .str (Str.ofString "law_og0238_01") 409⟩, ⟨Str.ofString "__doc__", 166, .none⟩, ⟨Str.ofString "__package__", 167, .none⟩, ⟨Str.ofString "__loader__", 168, .builtin "__main__.__loader__#opaque"⟩, ⟨Str.ofString "__spec__", 169, .none⟩, ⟨Str.ofString "__annotations__", 170, .ref 6⟩, ⟨Str.ofString "__builtins__", 171, .ref 4⟩, ⟨Str.ofString "__file__", 173, .str (Str.ofString "/claim/cut.py") 172⟩, ⟨Str.ofString "__cached__", 174, .none⟩, ⟨Str.ofString "TermError", 217, .ref 32⟩, ⟨Str.ofString "BadSize", 233, .ref 45⟩, ⟨Str.ofString "WIDTH_JOINER", 237, .int 8205 236⟩, ⟨Str.ofString "WIDTH_PICTURE", 239, .int 65039 238⟩, ⟨Str.ofString "WIDTH_KEYCAP", 241, .int 8419 240⟩, ⟨Str.ofString "FIRST_MODIFIER", 244, .int 127995 242⟩, ⟨Str.ofString "LAST_MODIFIER", 245, .int 127999 243⟩, ⟨Str.ofString "FIRST_REGION", 248, .int 127462 246⟩, ⟨Str.ofString "LAST_REGION", 249, .int 127487 247⟩, ⟨Str.ofString "width_in_ranges", 260, .ref 62⟩, ⟨Str.ofString "width_check_ranges", 271, .ref 69⟩, ⟨Str.ofString "WidthTable", 321, .ref 100⟩, ⟨Str.ofString "is_region", 328, .ref 111⟩, ⟨Str.ofString "is_modifier", 335, .ref 118⟩, ⟨Str.ofString "width_bare", 342, .ref 125⟩, ⟨Str.ofString "joins", 348, .ref 130⟩, ⟨Str.ofString "cluster_width", 354, .ref 135⟩, ⟨Str.ofString "split_clusters", 364, .ref 142⟩, ⟨Str.ofString "codes_width", 370, .ref 147⟩, ⟨Str.ofString "cells_of_codes", 382, .ref 154⟩, ⟨Str.ofString "codes_cut", 394, .ref 161⟩, ⟨Str.ofString "codes_cut_ahead", 408, .ref 168⟩, ⟨Str.ofString "_law_sorts", 423, .ref 169⟩, ⟨Str.ofString "_law_marks", 428, .ref 170⟩, ⟨Str.ofString "_law_regions", 431, .ref 171⟩, ⟨Str.ofString "_law_pictures", 434, .ref 172⟩, ⟨Str.ofString "_law_draw", 443, .ref 179⟩, ⟨Str.ofString "_law_wide", 450, .ref 186⟩, ⟨Str.ofString "_law_row", 460, .ref 193⟩, ⟨Str.ofString "_law_begins", 466, .ref 198⟩, ⟨Str.ofString "_law_parts", 472, .ref 203⟩, ⟨Str.ofString "_law_takes", 478, .ref 208⟩, ⟨Str.ofString "_law_longest", 484, .ref 213⟩, ⟨Str.ofString "law", 490, .ref 218⟩]

noncomputable def clsNsK (P : Params) : Obj := dictK P 4 [⟨Str.ofString "__module__", 279, .str (Str.ofString "termcore.cellwidths") 234⟩, ⟨Str.ofString "__firstlineno__", 283, .int 29 282⟩, ⟨Str.ofString "__init__", 294, .ref 83⟩, ⟨Str.ofString "width_of", 302, .ref 90⟩, ⟨Str.ofString "is_picture", 310, .ref 97⟩, ⟨Str.ofString "__static_attributes__", 314, .ref 98⟩, ⟨Str.ofString "__dict__", 316, .ref 101⟩, ⟨Str.ofString "__weakref__", 318, .ref 102⟩, ⟨Str.ofString "__doc__", 319, .none⟩]

noncomputable def clsK : Obj := { cls := .type "type", data := .cls { name := Str.ofString "WidthTable", bases := [.type "object"], mro := [.ref 100, .type "object"], ns := 99, qualname := Str.ofString "WidthTable" }, slots := #[none, none, some (.str (Str.ofString "WidthTable") 272), some (.str (Str.ofString "WidthTable") 280), some (.builtin "object.__new__"), some (.bool true)] }

noncomputable def cutPy : Str := Str.ofString "/claim/cut.py"
noncomputable def codeK (name qual : Str) (t line args a0 i0 a1 : Nat) (a2 a3 : Value) (a4 i1 i2 t2 : Nat) : Obj := { cls := .type "code", data := .fields #[.str name t, .str qual (t + 1), .str cutPy (t + 2), .int line 0, .int args 0, .int 0 0, .int 0 0, .int 3 0, .ref a0, .bool true, .int i0 0, .ref a1, .none, a2, a3, .ref a4, .int i1 0, .int i2 0, .str cutPy t2] }
noncomputable def fnD (name qual md : Str) (mt code : Nat) (d : DefRow) : FuncData := { name := name, qualname := qual, params := d.args, body := .stmts d.body, scope := d.scope, globals := 3, closure := [], defaults := .none, kwdefaults := .none, pyModule := .str md mt, code := .ref code }
noncomputable def fnK (name qual md : Str) (mt code : Nat) (d : DefRow) : Obj := { cls := .type "function", data := .func (fnD name qual md mt code d) }

/-- what stands after the top -/
noncomputable def KK (P : Params) : Frag := [
  (3, globK P),
  (99, clsNsK P),
  (100, clsK),
  (169, { cls := .type "tuple", data := .seq #[.int 97 411, .int 769 412, .int 8205 413, .int 65039 414, .int 8419 415, .int 127995 416, .int 127462 417, .int 127487 418, .int 128000 419, .int 10084 420, .int 19968 421, .int 51 422] }),
  (170, { cls := .type "tuple", data := .seq #[.int 769 424, .int 8205 425, .int 65039 426, .int 8419 427] }),
  (171, { cls := .type "tuple", data := .seq #[.int 127462 429, .int 127487 430] }),
  (172, { cls := .type "tuple", data := .seq #[.int 128000 432, .int 10084 433] }),
  (61, codeK (Str.ofString "width_in_ranges") (Str.ofString "width_in_ranges") 250 14 2 56 181 57 (.ref 58) (.ref 59) 60 258 14 259),
  (68, codeK (Str.ofString "width_check_ranges") (Str.ofString "width_check_ranges") 261 23 1 63 181 64 (.ref 65) (.ref 66) 67 269 23 270),
  (82, codeK (Str.ofString "__init__") (Str.ofString "WidthTable.__init__") 284 31 4 77 181 78 (.ref 79) (.ref 80) 81 292 31 293),
  (89, codeK (Str.ofString "width_of") (Str.ofString "WidthTable.width_of") 295 38 2 84 181 85 (.ref 86) (.ref 87) 88 300 38 301),
  (96, codeK (Str.ofString "is_picture") (Str.ofString "WidthTable.is_picture") 303 43 2 91 181 92 (.ref 93) (.ref 94) 95 308 43 309),
  (110, codeK (Str.ofString "is_region") (Str.ofString "is_region") 322 45 1 105 181 106 (.ref 107) (.ref 108) 109 326 45 327),
  (117, codeK (Str.ofString "is_modifier") (Str.ofString "is_modifier") 329 47 1 112 181 113 (.ref 114) (.ref 115) 116 333 47 334),
  (124, codeK (Str.ofString "width_bare") (Str.ofString "width_bare") 336 49 1 119 181 120 (.ref 121) (.ref 122) 123 340 49 341),
  (129, codeK (Str.ofString "joins") (Str.ofString "joins") 343 51 3 126 181 127 (.none) (.none) 128 346 51 347),
  (134, codeK (Str.ofString "cluster_width") (Str.ofString "cluster_width") 349 61 2 131 181 132 (.none) (.none) 133 352 61 353),
  (141, codeK (Str.ofString "split_clusters") (Str.ofString "split_clusters") 355 69 2 136 181 137 (.ref 138) (.ref 139) 140 362 69 363),
  (146, codeK (Str.ofString "codes_width") (Str.ofString "codes_width") 365 77 2 143 181 144 (.none) (.none) 145 368 77 369),
  (153, codeK (Str.ofString "cells_of_codes") (Str.ofString "cells_of_codes") 371 79 3 148 181 149 (.ref 150) (.ref 151) 152 380 79 381),
  (160, codeK (Str.ofString "codes_cut") (Str.ofString "codes_cut") 383 87 3 155 181 156 (.ref 157) (.ref 158) 159 392 87 393),
  (167, codeK (Str.ofString "codes_cut_ahead") (Str.ofString "codes_cut_ahead") 395 95 3 162 181 163 (.ref 164) (.ref 165) 166 406 95 407),
  (178, codeK (Str.ofString "_law_draw") (Str.ofString "_law_draw") 435 109 2 173 181 174 (.ref 175) (.ref 176) 177 441 109 442),
  (185, codeK (Str.ofString "_law_wide") (Str.ofString "_law_wide") 444 113 1 180 181 181 (.ref 182) (.ref 183) 184 448 113 449),
  (192, codeK (Str.ofString "_law_row") (Str.ofString "_law_row") 451 119 1 187 181 188 (.ref 189) (.ref 190) 191 458 119 459),
  (197, codeK (Str.ofString "_law_begins") (Str.ofString "_law_begins") 461 127 2 194 181 195 (.none) (.none) 196 464 127 465),
  (202, codeK (Str.ofString "_law_parts") (Str.ofString "_law_parts") 467 142 1 199 181 200 (.none) (.none) 201 470 142 471),
  (207, codeK (Str.ofString "_law_takes") (Str.ofString "_law_takes") 473 145 2 204 181 205 (.none) (.none) 206 476 145 477),
  (212, codeK (Str.ofString "_law_longest") (Str.ofString "_law_longest") 479 153 3 209 181 210 (.none) (.none) 211 482 153 483),
  (217, codeK (Str.ofString "law") (Str.ofString "law") 485 156 1 214 181 215 (.none) (.none) 216 488 156 489),
  (62, fnK (Str.ofString "width_in_ranges") (Str.ofString "width_in_ranges") (Str.ofString "termcore.cellwidths") 234 61 (fnRow (Str.ofString "width_in_ranges"))),
  (69, fnK (Str.ofString "width_check_ranges") (Str.ofString "width_check_ranges") (Str.ofString "termcore.cellwidths") 234 68 (fnRow (Str.ofString "width_check_ranges"))),
  (83, fnK (Str.ofString "__init__") (Str.ofString "WidthTable.__init__") (Str.ofString "termcore.cellwidths") 234 82 (methRow (Str.ofString "WidthTable") (Str.ofString "__init__"))),
  (90, fnK (Str.ofString "width_of") (Str.ofString "WidthTable.width_of") (Str.ofString "termcore.cellwidths") 234 89 (methRow (Str.ofString "WidthTable") (Str.ofString "width_of"))),
  (97, fnK (Str.ofString "is_picture") (Str.ofString "WidthTable.is_picture") (Str.ofString "termcore.cellwidths") 234 96 (methRow (Str.ofString "WidthTable") (Str.ofString "is_picture"))),
  (111, fnK (Str.ofString "is_region") (Str.ofString "is_region") (Str.ofString "termcore.cellwidths") 234 110 (fnRow (Str.ofString "is_region"))),
  (118, fnK (Str.ofString "is_modifier") (Str.ofString "is_modifier") (Str.ofString "termcore.cellwidths") 234 117 (fnRow (Str.ofString "is_modifier"))),
  (125, fnK (Str.ofString "width_bare") (Str.ofString "width_bare") (Str.ofString "termcore.cellwidths") 234 124 (fnRow (Str.ofString "width_bare"))),
  (130, fnK (Str.ofString "joins") (Str.ofString "joins") (Str.ofString "termcore.cellwidths") 234 129 (fnRow (Str.ofString "joins"))),
  (135, fnK (Str.ofString "cluster_width") (Str.ofString "cluster_width") (Str.ofString "termcore.cellwidths") 234 134 (fnRow (Str.ofString "cluster_width"))),
  (142, fnK (Str.ofString "split_clusters") (Str.ofString "split_clusters") (Str.ofString "termcore.cellwidths") 234 141 (fnRow (Str.ofString "split_clusters"))),
  (147, fnK (Str.ofString "codes_width") (Str.ofString "codes_width") (Str.ofString "termcore.cellwidths") 234 146 (fnRow (Str.ofString "codes_width"))),
  (154, fnK (Str.ofString "cells_of_codes") (Str.ofString "cells_of_codes") (Str.ofString "termcore.cellwidths") 234 153 (fnRow (Str.ofString "cells_of_codes"))),
  (161, fnK (Str.ofString "codes_cut") (Str.ofString "codes_cut") (Str.ofString "termcore.cellwidths") 234 160 (fnRow (Str.ofString "codes_cut"))),
  (168, fnK (Str.ofString "codes_cut_ahead") (Str.ofString "codes_cut_ahead") (Str.ofString "termcore.cellwidths") 234 167 (fnRow (Str.ofString "codes_cut_ahead"))),
  (179, fnK (Str.ofString "_law_draw") (Str.ofString "_law_draw") (Str.ofString "law_og0238_01") 409 178 (fnRow (Str.ofString "_law_draw"))),
  (186, fnK (Str.ofString "_law_wide") (Str.ofString "_law_wide") (Str.ofString "law_og0238_01") 409 185 (fnRow (Str.ofString "_law_wide"))),
  (193, fnK (Str.ofString "_law_row") (Str.ofString "_law_row") (Str.ofString "law_og0238_01") 409 192 (fnRow (Str.ofString "_law_row"))),
  (198, fnK (Str.ofString "_law_begins") (Str.ofString "_law_begins") (Str.ofString "law_og0238_01") 409 197 (fnRow (Str.ofString "_law_begins"))),
  (203, fnK (Str.ofString "_law_parts") (Str.ofString "_law_parts") (Str.ofString "law_og0238_01") 409 202 (fnRow (Str.ofString "_law_parts"))),
  (208, fnK (Str.ofString "_law_takes") (Str.ofString "_law_takes") (Str.ofString "law_og0238_01") 409 207 (fnRow (Str.ofString "_law_takes"))),
  (213, fnK (Str.ofString "_law_longest") (Str.ofString "_law_longest") (Str.ofString "law_og0238_01") 409 212 (fnRow (Str.ofString "_law_longest"))),
  (218, fnK (Str.ofString "law") (Str.ofString "law") (Str.ofString "law_og0238_01") 409 217 (fnRow (Str.ofString "law")))]

noncomputable def kas : List Nat := [3, 99, 100, 169, 170, 171, 172, 61, 68, 82, 89, 96, 110, 117, 124, 129, 134, 141, 146, 153, 160, 167, 178, 185, 192, 197, 202, 207, 212, 217, 62, 69, 83, 90, 97, 111, 118, 125, 130, 135, 142, 147, 154, 161, 168, 179, 186, 193, 198, 203, 208, 213, 218]

end Mine
end

section
open PySem PySem.W PyProof.Rows PySem.Calls
set_option Elab.async false
set_option linter.unusedVariables false
set_option maxRecDepth 100000
namespace Mine

noncomputable def dictN (P : Params) (n : Nat) (es : List KE) : Obj := { cls := .none, data := .dict (es.map fun e => ⟨PyData.keyHash P e.k, .str e.k e.t, e.v⟩).toArray n }
noncomputable def tmplK (name qual : Str) (d : DefRow) : Obj := { cls := .none, data := .func { name := name, qualname := qual, params := d.args, body := .stmts d.body, scope := d.scope, globals := 0, closure := [], defaults := .none, kwdefaults := .none } }
noncomputable def fnKd (name qual md : Str) (mt code : Nat) (d : DefRow) (df : Value) : Obj := { cls := .type "function", data := .func { fnD name qual md mt code d with defaults := df } }

/-- what the text makes -/
noncomputable def ownK (P : Params) (g12 g32 : Obj) : List Obj := [
  ({ cls := .type "tuple", data := .seq #[] } : Obj),
  g12,
  ({ cls := .type "code", data := .fields #[.str (Str.ofString "<module>") 182, .str (Str.ofString "<module>") 183, .str (Str.ofString "/claim/cut.py") 184, .int 1 0, .int 0 0, .int 0 0, .int 0 0, .int 0 0, .ref 11, .bool false, .int 181 0, .ref 12, .none, .none, .none, .none, .int 185 0, .int 1 0, .str (Str.ofString "/claim/cut.py") 186] } : Obj),
  ({ cls := .type "frame", slots := #[some (.ref 13), some (.ref 3), some (.ref 3), none, some (.str (Str.ofString "__main__") 164), none, some (.ref 0)] } : Obj),
  ({ cls := .type "tuple", data := .seq #[.type "Exception"] } : Obj),
  ({ cls := .type "builtin_function_or_method", data := .fields #[.builtin "type.__prepare__", .type "type"] } : Obj),
  (dictK P 5 [⟨Str.ofString "__module__", 196, .str (Str.ofString "termcore.base") 187⟩, ⟨Str.ofString "__qualname__", 198, .str (Str.ofString "TermError") 197⟩, ⟨Str.ofString "__firstlineno__", 200, .int 2 199⟩, ⟨Str.ofString "__init__", 208, .ref 29⟩, ⟨Str.ofString "__static_attributes__", 210, .ref 30⟩]),
  ({ cls := .type "tuple", data := .seq #[] } : Obj),
  ({ cls := .none, data := .fields #[.int 4 0, .int 4 0, .ref 28] } : Obj),
  ({ cls := .type "code", data := .fields #[.str (Str.ofString "TermError") 191, .str (Str.ofString "TermError") 192, .str (Str.ofString "/claim/cut.py") 193, .int 2 0, .int 0 0, .int 0 0, .int 0 0, .int 0 0, .ref 18, .bool false, .int 181 0, .ref 19, .none, .none, .none, .none, .int 194 0, .int 2 0, .str (Str.ofString "/claim/cut.py") 195] } : Obj),
  ({ cls := .type "frame", slots := #[some (.ref 20), some (.ref 3), some (.ref 17), none, some (.str (Str.ofString "termcore.base") 187), none, some (.ref 0)] } : Obj),
  ({ cls := .type "tuple", data := .seq #[.none] } : Obj),
  ({ cls := .type "tuple", data := .seq #[] } : Obj),
  ({ cls := .none, data := .fields #[] } : Obj),
  ({ cls := .type "tuple", data := .seq #[.str (Str.ofString "self") 204, .str (Str.ofString "told") 205] } : Obj),
  ({ cls := .type "tuple", data := .seq #[] } : Obj),
  (tmplK (Str.ofString "__init__") (Str.ofString "TermError.__init__") (methRow (Str.ofString "TermError") (Str.ofString "__init__"))),
  ({ cls := .type "code", data := .fields #[.str (Str.ofString "__init__") 201, .str (Str.ofString "TermError.__init__") 202, .str (Str.ofString "/claim/cut.py") 203, .int 4 0, .int 2 0, .int 0 0, .int 0 0, .int 3 0, .ref 23, .bool true, .int 181 0, .ref 24, .none, .ref 25, .ref 26, .ref 27, .int 206 0, .int 4 0, .str (Str.ofString "/claim/cut.py") 207] } : Obj),
  (fnKd (Str.ofString "__init__") (Str.ofString "TermError.__init__") (Str.ofString "termcore.base") 187 28 (methRow (Str.ofString "TermError") (Str.ofString "__init__")) (.ref 22)),
  ({ cls := .type "tuple", data := .seq #[.str (Str.ofString "told") 209] } : Obj),
  (dictK P 3 [⟨Str.ofString "__module__", 196, .str (Str.ofString "termcore.base") 187⟩, ⟨Str.ofString "__firstlineno__", 200, .int 2 199⟩, ⟨Str.ofString "__init__", 208, .ref 29⟩, ⟨Str.ofString "__static_attributes__", 210, .ref 30⟩, ⟨Str.ofString "__weakref__", 212, .ref 33⟩, ⟨Str.ofString "__doc__", 213, .none⟩]),
  g32,
  ({ cls := .type "getset_descriptor", data := .fields #[.str (Str.ofString "__weakref__") 211, .ref 32, .builtin "ExceptionGroup.__weakref__", .none] } : Obj),
  ({ cls := .type "super", data := .fields #[.ref 32, .ref 32, .ref 32] } : Obj),
  ({ cls := .type "builtin_function_or_method", data := .fields #[.builtin "object.__init_subclass__", .ref 32] } : Obj),
  ({ cls := .type "tuple", data := .seq #[.ref 32] } : Obj),
  ({ cls := .type "builtin_function_or_method", data := .fields #[.builtin "type.__prepare__", .type "type"] } : Obj),
  (dictK P 4 [⟨Str.ofString "__module__", 225, .str (Str.ofString "termcore.base") 187⟩, ⟨Str.ofString "__qualname__", 227, .str (Str.ofString "BadSize") 226⟩, ⟨Str.ofString "__firstlineno__", 229, .int 6 228⟩, ⟨Str.ofString "__static_attributes__", 230, .ref 43⟩]),
  ({ cls := .type "tuple", data := .seq #[] } : Obj),
  ({ cls := .none, data := .fields #[] } : Obj),
  ({ cls := .type "code", data := .fields #[.str (Str.ofString "BadSize") 220, .str (Str.ofString "BadSize") 221, .str (Str.ofString "/claim/cut.py") 222, .int 6 0, .int 0 0, .int 0 0, .int 0 0, .int 0 0, .ref 39, .bool false, .int 181 0, .ref 40, .none, .none, .none, .none, .int 223 0, .int 6 0, .str (Str.ofString "/claim/cut.py") 224] } : Obj),
  ({ cls := .type "frame", slots := #[some (.ref 41), some (.ref 3), some (.ref 38), none, some (.str (Str.ofString "termcore.base") 187), none, some (.ref 0)] } : Obj),
  ({ cls := .type "tuple", data := .seq #[] } : Obj),
  (dictK P 2 [⟨Str.ofString "__module__", 225, .str (Str.ofString "termcore.base") 187⟩, ⟨Str.ofString "__firstlineno__", 229, .int 6 228⟩, ⟨Str.ofString "__static_attributes__", 230, .ref 43⟩, ⟨Str.ofString "__doc__", 231, .none⟩]),
  ({ cls := .type "type", data := .cls { name := Str.ofString "BadSize", bases := [.ref 32], mro := [.ref 45, .ref 32, .type "Exception", .type "BaseException", .type "object"], ns := 44, qualname := Str.ofString "BadSize" }, slots := #[some (.ref 36), none, some (.str (Str.ofString "BadSize") 218), some (.str (Str.ofString "BadSize") 226), some (.builtin "Exception.__new__"), some (.bool true)] } : Obj),
  ({ cls := .type "super", data := .fields #[.ref 45, .ref 45, .ref 45] } : Obj),
  ({ cls := .type "builtin_function_or_method", data := .fields #[.builtin "object.__init_subclass__", .ref 45] } : Obj),
  ({ cls := .type "tuple", data := .seq #[.int 127995 242, .int 127999 243] } : Obj),
  ({ cls := .type "tuple_iterator", data := .fields #[.none, .int 2 0] } : Obj),
  ({ cls := .type "tuple", data := .seq #[] } : Obj),
  ({ cls := .type "StopIteration", data := .fields #[.ref 50, .none, .none, .none, .bool false, .none] } : Obj),
  ({ cls := .type "tuple", data := .seq #[.int 127462 246, .int 127487 247] } : Obj),
  ({ cls := .type "tuple_iterator", data := .fields #[.none, .int 2 0] } : Obj),
  ({ cls := .type "tuple", data := .seq #[] } : Obj),
  ({ cls := .type "StopIteration", data := .fields #[.ref 54, .none, .none, .none, .bool false, .none] } : Obj),
  ({ cls := .type "tuple", data := .seq #[] } : Obj),
  ({ cls := .none, data := .fields #[] } : Obj),
  ({ cls := .type "tuple", data := .seq #[.str (Str.ofString "ranges") 253, .str (Str.ofString "code") 254, .str (Str.ofString "low") 255, .str (Str.ofString "high") 256, .str (Str.ofString "middle") 257] } : Obj),
  ({ cls := .type "tuple", data := .seq #[] } : Obj),
  (tmplK (Str.ofString "width_in_ranges") (Str.ofString "width_in_ranges") (fnRow (Str.ofString "width_in_ranges"))),
  ({ cls := .type "code", data := .fields #[.str (Str.ofString "width_in_ranges") 250, .str (Str.ofString "width_in_ranges") 251, .str (Str.ofString "/claim/cut.py") 252, .int 14 0, .int 2 0, .int 0 0, .int 0 0, .int 3 0, .ref 56, .bool true, .int 181 0, .ref 57, .none, .ref 58, .ref 59, .ref 60, .int 258 0, .int 14 0, .str (Str.ofString "/claim/cut.py") 259] } : Obj),
  (fnK (Str.ofString "width_in_ranges") (Str.ofString "width_in_ranges") (Str.ofString "termcore.cellwidths") 234 61 (fnRow (Str.ofString "width_in_ranges"))),
  ({ cls := .type "tuple", data := .seq #[] } : Obj),
  ({ cls := .none, data := .fields #[] } : Obj),
  ({ cls := .type "tuple", data := .seq #[.str (Str.ofString "ranges") 264, .str (Str.ofString "before") 265, .str (Str.ofString "place") 266, .str (Str.ofString "first") 267, .str (Str.ofString "last") 268] } : Obj),
  ({ cls := .type "tuple", data := .seq #[] } : Obj),
  (tmplK (Str.ofString "width_check_ranges") (Str.ofString "width_check_ranges") (fnRow (Str.ofString "width_check_ranges"))),
  ({ cls := .type "code", data := .fields #[.str (Str.ofString "width_check_ranges") 261, .str (Str.ofString "width_check_ranges") 262, .str (Str.ofString "/claim/cut.py") 263, .int 23 0, .int 1 0, .int 0 0, .int 0 0, .int 3 0, .ref 63, .bool true, .int 181 0, .ref 64, .none, .ref 65, .ref 66, .ref 67, .int 269 0, .int 23 0, .str (Str.ofString "/claim/cut.py") 270] } : Obj),
  (fnK (Str.ofString "width_check_ranges") (Str.ofString "width_check_ranges") (Str.ofString "termcore.cellwidths") 234 68 (fnRow (Str.ofString "width_check_ranges"))),
  ({ cls := .type "tuple", data := .seq #[] } : Obj),
  ({ cls := .type "builtin_function_or_method", data := .fields #[.builtin "type.__prepare__", .type "type"] } : Obj),
  (dictK P 7 [⟨Str.ofString "__module__", 279, .str (Str.ofString "termcore.cellwidths") 234⟩, ⟨Str.ofString "__qualname__", 281, .str (Str.ofString "WidthTable") 280⟩, ⟨Str.ofString "__firstlineno__", 283, .int 29 282⟩, ⟨Str.ofString "__init__", 294, .ref 83⟩, ⟨Str.ofString "width_of", 302, .ref 90⟩, ⟨Str.ofString "is_picture", 310, .ref 97⟩, ⟨Str.ofString "__static_attributes__", 314, .ref 98⟩]),
  ({ cls := .type "tuple", data := .seq #[] } : Obj),
  ({ cls := .none, data := .fields #[.int 31 0, .int 4 0, .ref 82, .int 38 0, .int 4 0, .ref 89, .int 43 0, .int 4 0, .ref 96] } : Obj),
  ({ cls := .type "code", data := .fields #[.str (Str.ofString "WidthTable") 274, .str (Str.ofString "WidthTable") 275, .str (Str.ofString "/claim/cut.py") 276, .int 29 0, .int 0 0, .int 0 0, .int 0 0, .int 0 0, .ref 73, .bool false, .int 181 0, .ref 74, .none, .none, .none, .none, .int 277 0, .int 29 0, .str (Str.ofString "/claim/cut.py") 278] } : Obj),
  ({ cls := .type "frame", slots := #[some (.ref 75), some (.ref 3), some (.ref 72), none, some (.str (Str.ofString "termcore.cellwidths") 234), none, some (.ref 0)] } : Obj),
  ({ cls := .type "tuple", data := .seq #[] } : Obj),
  ({ cls := .none, data := .fields #[] } : Obj),
  ({ cls := .type "tuple", data := .seq #[.str (Str.ofString "self") 287, .str (Str.ofString "wide") 288, .str (Str.ofString "marks") 289, .str (Str.ofString "joiners") 290, .str (Str.ofString "ranges") 291] } : Obj),
  ({ cls := .type "tuple", data := .seq #[] } : Obj),
  (tmplK (Str.ofString "__init__") (Str.ofString "WidthTable.__init__") (methRow (Str.ofString "WidthTable") (Str.ofString "__init__"))),
  ({ cls := .type "code", data := .fields #[.str (Str.ofString "__init__") 284, .str (Str.ofString "WidthTable.__init__") 285, .str (Str.ofString "/claim/cut.py") 286, .int 31 0, .int 4 0, .int 0 0, .int 0 0, .int 3 0, .ref 77, .bool true, .int 181 0, .ref 78, .none, .ref 79, .ref 80, .ref 81, .int 292 0, .int 31 0, .str (Str.ofString "/claim/cut.py") 293] } : Obj),
  (fnK (Str.ofString "__init__") (Str.ofString "WidthTable.__init__") (Str.ofString "termcore.cellwidths") 234 82 (methRow (Str.ofString "WidthTable") (Str.ofString "__init__"))),
  ({ cls := .type "tuple", data := .seq #[] } : Obj),
  ({ cls := .none, data := .fields #[] } : Obj),
  ({ cls := .type "tuple", data := .seq #[.str (Str.ofString "self") 298, .str (Str.ofString "code") 299] } : Obj),
  ({ cls := .type "tuple", data := .seq #[] } : Obj),
  (tmplK (Str.ofString "width_of") (Str.ofString "WidthTable.width_of") (methRow (Str.ofString "WidthTable") (Str.ofString "width_of"))),
  ({ cls := .type "code", data := .fields #[.str (Str.ofString "width_of") 295, .str (Str.ofString "WidthTable.width_of") 296, .str (Str.ofString "/claim/cut.py") 297, .int 38 0, .int 2 0, .int 0 0, .int 0 0, .int 3 0, .ref 84, .bool true, .int 181 0, .ref 85, .none, .ref 86, .ref 87, .ref 88, .int 300 0, .int 38 0, .str (Str.ofString "/claim/cut.py") 301] } : Obj),
  (fnK (Str.ofString "width_of") (Str.ofString "WidthTable.width_of") (Str.ofString "termcore.cellwidths") 234 89 (methRow (Str.ofString "WidthTable") (Str.ofString "width_of"))),
  ({ cls := .type "tuple", data := .seq #[] } : Obj),
  ({ cls := .none, data := .fields #[] } : Obj),
  ({ cls := .type "tuple", data := .seq #[.str (Str.ofString "self") 306, .str (Str.ofString "code") 307] } : Obj),
  ({ cls := .type "tuple", data := .seq #[] } : Obj),
  (tmplK (Str.ofString "is_picture") (Str.ofString "WidthTable.is_picture") (methRow (Str.ofString "WidthTable") (Str.ofString "is_picture"))),
  ({ cls := .type "code", data := .fields #[.str (Str.ofString "is_picture") 303, .str (Str.ofString "WidthTable.is_picture") 304, .str (Str.ofString "/claim/cut.py") 305, .int 43 0, .int 2 0, .int 0 0, .int 0 0, .int 3 0, .ref 91, .bool true, .int 181 0, .ref 92, .none, .ref 93, .ref 94, .ref 95, .int 308 0, .int 43 0, .str (Str.ofString "/claim/cut.py") 309] } : Obj),
  (fnK (Str.ofString "is_picture") (Str.ofString "WidthTable.is_picture") (Str.ofString "termcore.cellwidths") 234 96 (methRow (Str.ofString "WidthTable") (Str.ofString "is_picture"))),
  ({ cls := .type "tuple", data := .seq #[.str (Str.ofString "joiners") 311, .str (Str.ofString "marks") 312, .str (Str.ofString "wide") 313] } : Obj),
  (dictK P 4 [⟨Str.ofString "__module__", 279, .str (Str.ofString "termcore.cellwidths") 234⟩, ⟨Str.ofString "__firstlineno__", 283, .int 29 282⟩, ⟨Str.ofString "__init__", 294, .ref 83⟩, ⟨Str.ofString "width_of", 302, .ref 90⟩, ⟨Str.ofString "is_picture", 310, .ref 97⟩, ⟨Str.ofString "__static_attributes__", 314, .ref 98⟩, ⟨Str.ofString "__dict__", 316, .ref 101⟩, ⟨Str.ofString "__weakref__", 318, .ref 102⟩, ⟨Str.ofString "__doc__", 319, .none⟩]),
  ({ cls := .type "type", data := .cls { name := Str.ofString "WidthTable", bases := [.type "object"], mro := [.ref 100, .type "object"], ns := 99, qualname := Str.ofString "WidthTable" }, slots := #[none, none, some (.str (Str.ofString "WidthTable") 272), some (.str (Str.ofString "WidthTable") 280), some (.builtin "object.__new__"), some (.bool true)] } : Obj),
  ({ cls := .type "getset_descriptor", data := .fields #[.str (Str.ofString "__dict__") 315, .ref 100, .builtin "function.__dict__", .builtin "function.__dict__#set"] } : Obj),
  ({ cls := .type "getset_descriptor", data := .fields #[.str (Str.ofString "__weakref__") 317, .ref 100, .builtin "ExceptionGroup.__weakref__", .none] } : Obj),
  ({ cls := .type "super", data := .fields #[.ref 100, .ref 100, .ref 100] } : Obj),
  ({ cls := .type "builtin_function_or_method", data := .fields #[.builtin "object.__init_subclass__", .ref 100] } : Obj),
  ({ cls := .type "tuple", data := .seq #[] } : Obj),
  ({ cls := .none, data := .fields #[] } : Obj),
  ({ cls := .type "tuple", data := .seq #[.str (Str.ofString "code") 325] } : Obj),
  ({ cls := .type "tuple", data := .seq #[] } : Obj),
  (tmplK (Str.ofString "is_region") (Str.ofString "is_region") (fnRow (Str.ofString "is_region"))),
  ({ cls := .type "code", data := .fields #[.str (Str.ofString "is_region") 322, .str (Str.ofString "is_region") 323, .str (Str.ofString "/claim/cut.py") 324, .int 45 0, .int 1 0, .int 0 0, .int 0 0, .int 3 0, .ref 105, .bool true, .int 181 0, .ref 106, .none, .ref 107, .ref 108, .ref 109, .int 326 0, .int 45 0, .str (Str.ofString "/claim/cut.py") 327] } : Obj),
  (fnK (Str.ofString "is_region") (Str.ofString "is_region") (Str.ofString "termcore.cellwidths") 234 110 (fnRow (Str.ofString "is_region"))),
  ({ cls := .type "tuple", data := .seq #[] } : Obj),
  ({ cls := .none, data := .fields #[] } : Obj),
  ({ cls := .type "tuple", data := .seq #[.str (Str.ofString "code") 332] } : Obj),
  ({ cls := .type "tuple", data := .seq #[] } : Obj),
  (tmplK (Str.ofString "is_modifier") (Str.ofString "is_modifier") (fnRow (Str.ofString "is_modifier"))),
  ({ cls := .type "code", data := .fields #[.str (Str.ofString "is_modifier") 329, .str (Str.ofString "is_modifier") 330, .str (Str.ofString "/claim/cut.py") 331, .int 47 0, .int 1 0, .int 0 0, .int 0 0, .int 3 0, .ref 112, .bool true, .int 181 0, .ref 113, .none, .ref 114, .ref 115, .ref 116, .int 333 0, .int 47 0, .str (Str.ofString "/claim/cut.py") 334] } : Obj),
  (fnK (Str.ofString "is_modifier") (Str.ofString "is_modifier") (Str.ofString "termcore.cellwidths") 234 117 (fnRow (Str.ofString "is_modifier"))),
  ({ cls := .type "tuple", data := .seq #[] } : Obj),
  ({ cls := .none, data := .fields #[] } : Obj),
  ({ cls := .type "tuple", data := .seq #[.str (Str.ofString "codes") 339] } : Obj),
  ({ cls := .type "tuple", data := .seq #[] } : Obj),
  (tmplK (Str.ofString "width_bare") (Str.ofString "width_bare") (fnRow (Str.ofString "width_bare"))),
  ({ cls := .type "code", data := .fields #[.str (Str.ofString "width_bare") 336, .str (Str.ofString "width_bare") 337, .str (Str.ofString "/claim/cut.py") 338, .int 49 0, .int 1 0, .int 0 0, .int 0 0, .int 3 0, .ref 119, .bool true, .int 181 0, .ref 120, .none, .ref 121, .ref 122, .ref 123, .int 340 0, .int 49 0, .str (Str.ofString "/claim/cut.py") 341] } : Obj),
  (fnK (Str.ofString "width_bare") (Str.ofString "width_bare") (Str.ofString "termcore.cellwidths") 234 124 (fnRow (Str.ofString "width_bare"))),
  ({ cls := .type "tuple", data := .seq #[] } : Obj),
  ({ cls := .none, data := .fields #[] } : Obj),
  (tmplK (Str.ofString "joins") (Str.ofString "joins") (fnRow (Str.ofString "joins"))),
  ({ cls := .type "code", data := .fields #[.str (Str.ofString "joins") 343, .str (Str.ofString "joins") 344, .str (Str.ofString "/claim/cut.py") 345, .int 51 0, .int 3 0, .int 0 0, .int 0 0, .int 3 0, .ref 126, .bool true, .int 181 0, .ref 127, .none, .none, .none, .ref 128, .int 346 0, .int 51 0, .str (Str.ofString "/claim/cut.py") 347] } : Obj),
  (fnK (Str.ofString "joins") (Str.ofString "joins") (Str.ofString "termcore.cellwidths") 234 129 (fnRow (Str.ofString "joins"))),
  ({ cls := .type "tuple", data := .seq #[] } : Obj),
  ({ cls := .none, data := .fields #[] } : Obj),
  (tmplK (Str.ofString "cluster_width") (Str.ofString "cluster_width") (fnRow (Str.ofString "cluster_width"))),
  ({ cls := .type "code", data := .fields #[.str (Str.ofString "cluster_width") 349, .str (Str.ofString "cluster_width") 350, .str (Str.ofString "/claim/cut.py") 351, .int 61 0, .int 2 0, .int 0 0, .int 0 0, .int 3 0, .ref 131, .bool true, .int 181 0, .ref 132, .none, .none, .none, .ref 133, .int 352 0, .int 61 0, .str (Str.ofString "/claim/cut.py") 353] } : Obj),
  (fnK (Str.ofString "cluster_width") (Str.ofString "cluster_width") (Str.ofString "termcore.cellwidths") 234 134 (fnRow (Str.ofString "cluster_width"))),
  ({ cls := .type "tuple", data := .seq #[] } : Obj),
  ({ cls := .none, data := .fields #[] } : Obj),
  ({ cls := .type "tuple", data := .seq #[.str (Str.ofString "codes") 358, .str (Str.ofString "table") 359, .str (Str.ofString "found") 360, .str (Str.ofString "code") 361] } : Obj),
  ({ cls := .type "tuple", data := .seq #[] } : Obj),
  (tmplK (Str.ofString "split_clusters") (Str.ofString "split_clusters") (fnRow (Str.ofString "split_clusters"))),
  ({ cls := .type "code", data := .fields #[.str (Str.ofString "split_clusters") 355, .str (Str.ofString "split_clusters") 356, .str (Str.ofString "/claim/cut.py") 357, .int 69 0, .int 2 0, .int 0 0, .int 0 0, .int 3 0, .ref 136, .bool true, .int 181 0, .ref 137, .none, .ref 138, .ref 139, .ref 140, .int 362 0, .int 69 0, .str (Str.ofString "/claim/cut.py") 363] } : Obj),
  (fnK (Str.ofString "split_clusters") (Str.ofString "split_clusters") (Str.ofString "termcore.cellwidths") 234 141 (fnRow (Str.ofString "split_clusters"))),
  ({ cls := .type "tuple", data := .seq #[] } : Obj),
  ({ cls := .none, data := .fields #[] } : Obj),
  (tmplK (Str.ofString "codes_width") (Str.ofString "codes_width") (fnRow (Str.ofString "codes_width"))),
  ({ cls := .type "code", data := .fields #[.str (Str.ofString "codes_width") 365, .str (Str.ofString "codes_width") 366, .str (Str.ofString "/claim/cut.py") 367, .int 77 0, .int 2 0, .int 0 0, .int 0 0, .int 3 0, .ref 143, .bool true, .int 181 0, .ref 144, .none, .none, .none, .ref 145, .int 368 0, .int 77 0, .str (Str.ofString "/claim/cut.py") 369] } : Obj),
  (fnK (Str.ofString "codes_width") (Str.ofString "codes_width") (Str.ofString "termcore.cellwidths") 234 146 (fnRow (Str.ofString "codes_width"))),
  ({ cls := .type "tuple", data := .seq #[] } : Obj),
  ({ cls := .none, data := .fields #[] } : Obj),
  ({ cls := .type "tuple", data := .seq #[.str (Str.ofString "codes") 374, .str (Str.ofString "pen") 375, .str (Str.ofString "table") 376, .str (Str.ofString "found") 377, .str (Str.ofString "one") 378, .str (Str.ofString "width") 379] } : Obj),
  ({ cls := .type "tuple", data := .seq #[] } : Obj),
  (tmplK (Str.ofString "cells_of_codes") (Str.ofString "cells_of_codes") (fnRow (Str.ofString "cells_of_codes"))),
  ({ cls := .type "code", data := .fields #[.str (Str.ofString "cells_of_codes") 371, .str (Str.ofString "cells_of_codes") 372, .str (Str.ofString "/claim/cut.py") 373, .int 79 0, .int 3 0, .int 0 0, .int 0 0, .int 3 0, .ref 148, .bool true, .int 181 0, .ref 149, .none, .ref 150, .ref 151, .ref 152, .int 380 0, .int 79 0, .str (Str.ofString "/claim/cut.py") 381] } : Obj),
  (fnK (Str.ofString "cells_of_codes") (Str.ofString "cells_of_codes") (Str.ofString "termcore.cellwidths") 234 153 (fnRow (Str.ofString "cells_of_codes"))),
  ({ cls := .type "tuple", data := .seq #[] } : Obj),
  ({ cls := .none, data := .fields #[] } : Obj),
  ({ cls := .type "tuple", data := .seq #[.str (Str.ofString "codes") 386, .str (Str.ofString "most") 387, .str (Str.ofString "table") 388, .str (Str.ofString "found") 389, .str (Str.ofString "left") 390, .str (Str.ofString "one") 391] } : Obj),
  ({ cls := .type "tuple", data := .seq #[] } : Obj),
  (tmplK (Str.ofString "codes_cut") (Str.ofString "codes_cut") (fnRow (Str.ofString "codes_cut"))),
  ({ cls := .type "code", data := .fields #[.str (Str.ofString "codes_cut") 383, .str (Str.ofString "codes_cut") 384, .str (Str.ofString "/claim/cut.py") 385, .int 87 0, .int 3 0, .int 0 0, .int 0 0, .int 3 0, .ref 155, .bool true, .int 181 0, .ref 156, .none, .ref 157, .ref 158, .ref 159, .int 392 0, .int 87 0, .str (Str.ofString "/claim/cut.py") 393] } : Obj),
  (fnK (Str.ofString "codes_cut") (Str.ofString "codes_cut") (Str.ofString "termcore.cellwidths") 234 160 (fnRow (Str.ofString "codes_cut"))),
  ({ cls := .type "tuple", data := .seq #[] } : Obj),
  ({ cls := .none, data := .fields #[] } : Obj),
  ({ cls := .type "tuple", data := .seq #[.str (Str.ofString "codes") 398, .str (Str.ofString "most") 399, .str (Str.ofString "table") 400, .str (Str.ofString "clusters") 401, .str (Str.ofString "left") 402, .str (Str.ofString "many") 403, .str (Str.ofString "found") 404, .str (Str.ofString "one") 405] } : Obj),
  ({ cls := .type "tuple", data := .seq #[] } : Obj),
  (tmplK (Str.ofString "codes_cut_ahead") (Str.ofString "codes_cut_ahead") (fnRow (Str.ofString "codes_cut_ahead"))),
  ({ cls := .type "code", data := .fields #[.str (Str.ofString "codes_cut_ahead") 395, .str (Str.ofString "codes_cut_ahead") 396, .str (Str.ofString "/claim/cut.py") 397, .int 95 0, .int 3 0, .int 0 0, .int 0 0, .int 3 0, .ref 162, .bool true, .int 181 0, .ref 163, .none, .ref 164, .ref 165, .ref 166, .int 406 0, .int 95 0, .str (Str.ofString "/claim/cut.py") 407] } : Obj),
  (fnK (Str.ofString "codes_cut_ahead") (Str.ofString "codes_cut_ahead") (Str.ofString "termcore.cellwidths") 234 167 (fnRow (Str.ofString "codes_cut_ahead"))),
  ({ cls := .type "tuple", data := .seq #[.int 97 411, .int 769 412, .int 8205 413, .int 65039 414, .int 8419 415, .int 127995 416, .int 127462 417, .int 127487 418, .int 128000 419, .int 10084 420, .int 19968 421, .int 51 422] } : Obj),
  ({ cls := .type "tuple", data := .seq #[.int 769 424, .int 8205 425, .int 65039 426, .int 8419 427] } : Obj),
  ({ cls := .type "tuple", data := .seq #[.int 127462 429, .int 127487 430] } : Obj),
  ({ cls := .type "tuple", data := .seq #[.int 128000 432, .int 10084 433] } : Obj),
  ({ cls := .type "tuple", data := .seq #[] } : Obj),
  ({ cls := .none, data := .fields #[] } : Obj),
  ({ cls := .type "tuple", data := .seq #[.str (Str.ofString "pen") 438, .str (Str.ofString "many") 439, .str (Str.ofString "at") 440] } : Obj),
  ({ cls := .type "tuple", data := .seq #[] } : Obj),
  (tmplK (Str.ofString "_law_draw") (Str.ofString "_law_draw") (fnRow (Str.ofString "_law_draw"))),
  ({ cls := .type "code", data := .fields #[.str (Str.ofString "_law_draw") 435, .str (Str.ofString "_law_draw") 436, .str (Str.ofString "/claim/cut.py") 437, .int 109 0, .int 2 0, .int 0 0, .int 0 0, .int 3 0, .ref 173, .bool true, .int 181 0, .ref 174, .none, .ref 175, .ref 176, .ref 177, .int 441 0, .int 109 0, .str (Str.ofString "/claim/cut.py") 442] } : Obj),
  (fnK (Str.ofString "_law_draw") (Str.ofString "_law_draw") (Str.ofString "law_og0238_01") 409 178 (fnRow (Str.ofString "_law_draw"))),
  ({ cls := .type "tuple", data := .seq #[] } : Obj),
  ({ cls := .none, data := .fields #[] } : Obj),
  ({ cls := .type "tuple", data := .seq #[.str (Str.ofString "way") 447] } : Obj),
  ({ cls := .type "tuple", data := .seq #[] } : Obj),
  (tmplK (Str.ofString "_law_wide") (Str.ofString "_law_wide") (fnRow (Str.ofString "_law_wide"))),
  ({ cls := .type "code", data := .fields #[.str (Str.ofString "_law_wide") 444, .str (Str.ofString "_law_wide") 445, .str (Str.ofString "/claim/cut.py") 446, .int 113 0, .int 1 0, .int 0 0, .int 0 0, .int 3 0, .ref 180, .bool true, .int 181 0, .ref 181, .none, .ref 182, .ref 183, .ref 184, .int 448 0, .int 113 0, .str (Str.ofString "/claim/cut.py") 449] } : Obj),
  (fnK (Str.ofString "_law_wide") (Str.ofString "_law_wide") (Str.ofString "law_og0238_01") 409 185 (fnRow (Str.ofString "_law_wide"))),
  ({ cls := .type "tuple", data := .seq #[] } : Obj),
  ({ cls := .none, data := .fields #[] } : Obj),
  ({ cls := .type "tuple", data := .seq #[.str (Str.ofString "pen") 454, .str (Str.ofString "row") 455, .str (Str.ofString "turn") 456, .str (Str.ofString "code") 457] } : Obj),
  ({ cls := .type "tuple", data := .seq #[] } : Obj),
  (tmplK (Str.ofString "_law_row") (Str.ofString "_law_row") (fnRow (Str.ofString "_law_row"))),
  ({ cls := .type "code", data := .fields #[.str (Str.ofString "_law_row") 451, .str (Str.ofString "_law_row") 452, .str (Str.ofString "/claim/cut.py") 453, .int 119 0, .int 1 0, .int 0 0, .int 0 0, .int 3 0, .ref 187, .bool true, .int 181 0, .ref 188, .none, .ref 189, .ref 190, .ref 191, .int 458 0, .int 119 0, .str (Str.ofString "/claim/cut.py") 459] } : Obj),
  (fnK (Str.ofString "_law_row") (Str.ofString "_law_row") (Str.ofString "law_og0238_01") 409 192 (fnRow (Str.ofString "_law_row"))),
  ({ cls := .type "tuple", data := .seq #[] } : Obj),
  ({ cls := .none, data := .fields #[] } : Obj),
  (tmplK (Str.ofString "_law_begins") (Str.ofString "_law_begins") (fnRow (Str.ofString "_law_begins"))),
  ({ cls := .type "code", data := .fields #[.str (Str.ofString "_law_begins") 461, .str (Str.ofString "_law_begins") 462, .str (Str.ofString "/claim/cut.py") 463, .int 127 0, .int 2 0, .int 0 0, .int 0 0, .int 3 0, .ref 194, .bool true, .int 181 0, .ref 195, .none, .none, .none, .ref 196, .int 464 0, .int 127 0, .str (Str.ofString "/claim/cut.py") 465] } : Obj),
  (fnK (Str.ofString "_law_begins") (Str.ofString "_law_begins") (Str.ofString "law_og0238_01") 409 197 (fnRow (Str.ofString "_law_begins"))),
  ({ cls := .type "tuple", data := .seq #[] } : Obj),
  ({ cls := .none, data := .fields #[] } : Obj),
  (tmplK (Str.ofString "_law_parts") (Str.ofString "_law_parts") (fnRow (Str.ofString "_law_parts"))),
  ({ cls := .type "code", data := .fields #[.str (Str.ofString "_law_parts") 467, .str (Str.ofString "_law_parts") 468, .str (Str.ofString "/claim/cut.py") 469, .int 142 0, .int 1 0, .int 0 0, .int 0 0, .int 3 0, .ref 199, .bool true, .int 181 0, .ref 200, .none, .none, .none, .ref 201, .int 470 0, .int 142 0, .str (Str.ofString "/claim/cut.py") 471] } : Obj),
  (fnK (Str.ofString "_law_parts") (Str.ofString "_law_parts") (Str.ofString "law_og0238_01") 409 202 (fnRow (Str.ofString "_law_parts"))),
  ({ cls := .type "tuple", data := .seq #[] } : Obj),
  ({ cls := .none, data := .fields #[] } : Obj),
  (tmplK (Str.ofString "_law_takes") (Str.ofString "_law_takes") (fnRow (Str.ofString "_law_takes"))),
  ({ cls := .type "code", data := .fields #[.str (Str.ofString "_law_takes") 473, .str (Str.ofString "_law_takes") 474, .str (Str.ofString "/claim/cut.py") 475, .int 145 0, .int 2 0, .int 0 0, .int 0 0, .int 3 0, .ref 204, .bool true, .int 181 0, .ref 205, .none, .none, .none, .ref 206, .int 476 0, .int 145 0, .str (Str.ofString "/claim/cut.py") 477] } : Obj),
  (fnK (Str.ofString "_law_takes") (Str.ofString "_law_takes") (Str.ofString "law_og0238_01") 409 207 (fnRow (Str.ofString "_law_takes"))),
  ({ cls := .type "tuple", data := .seq #[] } : Obj),
  ({ cls := .none, data := .fields #[] } : Obj),
  (tmplK (Str.ofString "_law_longest") (Str.ofString "_law_longest") (fnRow (Str.ofString "_law_longest"))),
  ({ cls := .type "code", data := .fields #[.str (Str.ofString "_law_longest") 479, .str (Str.ofString "_law_longest") 480, .str (Str.ofString "/claim/cut.py") 481, .int 153 0, .int 3 0, .int 0 0, .int 0 0, .int 3 0, .ref 209, .bool true, .int 181 0, .ref 210, .none, .none, .none, .ref 211, .int 482 0, .int 153 0, .str (Str.ofString "/claim/cut.py") 483] } : Obj),
  (fnK (Str.ofString "_law_longest") (Str.ofString "_law_longest") (Str.ofString "law_og0238_01") 409 212 (fnRow (Str.ofString "_law_longest"))),
  ({ cls := .type "tuple", data := .seq #[] } : Obj),
  ({ cls := .none, data := .fields #[] } : Obj),
  (tmplK (Str.ofString "law") (Str.ofString "law") (fnRow (Str.ofString "law"))),
  ({ cls := .type "code", data := .fields #[.str (Str.ofString "law") 485, .str (Str.ofString "law") 486, .str (Str.ofString "/claim/cut.py") 487, .int 156 0, .int 1 0, .int 0 0, .int 0 0, .int 3 0, .ref 214, .bool true, .int 181 0, .ref 215, .none, .none, .none, .ref 216, .int 488 0, .int 156 0, .str (Str.ofString "/claim/cut.py") 489] } : Obj),
  (fnK (Str.ofString "law") (Str.ofString "law") (Str.ofString "law_og0238_01") 409 217 (fnRow (Str.ofString "law")))]

noncomputable def hpK (n : Nat) (g2 g3 g12 g32 : Params → Obj) (P : Params) : Heap :=
  ⟨⟨boot_o_0 P :: boot_o_1 P :: g2 P :: g3 P :: boot_o_4 P :: boot_o_5 P :: boot_o_6 P :: boot_o_7 P :: boot_o_8 P :: boot_o_9 P :: boot_o_10 P :: (ownK P (g12 P) (g32 P)).take n⟩, {}⟩
noncomputable def stK (H : Params → Heap) (toks : Nat) (w : World) (os : OsState) : Shared := ⟨H w.params, Array.mk [], {}, toks, os⟩
noncomputable def S0K (w : World) (os : OsState) : Shared := ⟨boot_heap w.params, Array.mk [], boot_drawn, boot_toks, os⟩
noncomputable def pg : Program := PySem.Challenge.rw_og0238_01.row.toRowW.prog
noncomputable def envK : Env := { scope := pg.main.scope, locals := mainNs, globals := mainNs, cells := [], code := .ref 13, frame := some 14 }
noncomputable def cK : Code := .body (behindTheImports pg) envK
noncomputable def qK : Pos := ⟨0, 0, 0, 0⟩
noncomputable def BK : List Frame := [topFrame qK]
noncomputable def annK : Option Value := some (.ref 6)
noncomputable def segK (a n : Nat) : List Stmt := ((behindTheImports pg).drop a).take n

noncomputable def stA_2 (P : Params) : Obj := (dictN P 0 [])
noncomputable def stA_3 (P : Params) : Obj := (dictK P 9 [⟨Str.ofString "__name__", 165, .str (Str.ofString "__main__") 164⟩, ⟨Str.ofString "__doc__", 166, .none⟩, ⟨Str.ofString "__package__", 167, .none⟩, ⟨Str.ofString "__loader__", 168, .builtin "__main__.__loader__#opaque"⟩, ⟨Str.ofString "__spec__", 169, .none⟩, ⟨Str.ofString "__annotations__", 170, .ref 6⟩, ⟨Str.ofString "__builtins__", 171, .ref 4⟩, ⟨Str.ofString "__file__", 173, .str (Str.ofString "/claim/cut.py") 172⟩, ⟨Str.ofString "__cached__", 174, .none⟩])
noncomputable def stA_12 (P : Params) : Obj := ({ cls := .none, data := .fields #[] } : Obj)
noncomputable def stA_32 (P : Params) : Obj := { cls := .none }
noncomputable def stAH : Params → Heap := hpK 4 stA_2 stA_3 stA_12 stA_32
noncomputable def stA : World → OsState → Shared := stK stAH 187

noncomputable def st1_2 (P : Params) : Obj := (dictN P 2 [⟨Str.ofString "type.__subclasses__.Exception.0", 214, .int 32 0⟩, ⟨Str.ofString "type.__subclasses__.Exception.n", 215, .int 1 0⟩])
noncomputable def st1_3 (P : Params) : Obj := (dictK P 10 [⟨Str.ofString "__name__", 165, .str (Str.ofString "termcore.base") 187⟩, ⟨Str.ofString "__doc__", 166, .none⟩, ⟨Str.ofString "__package__", 167, .none⟩, ⟨Str.ofString "__loader__", 168, .builtin "__main__.__loader__#opaque"⟩, ⟨Str.ofString "__spec__", 169, .none⟩, ⟨Str.ofString "__annotations__", 170, .ref 6⟩, ⟨Str.ofString "__builtins__", 171, .ref 4⟩, ⟨Str.ofString "__file__", 173, .str (Str.ofString "/claim/cut.py") 172⟩, ⟨Str.ofString "__cached__", 174, .none⟩, ⟨Str.ofString "TermError", 217, .ref 32⟩])
noncomputable def st1_12 (P : Params) : Obj := ({ cls := .none, data := .fields #[.int 2 0, .int 0 0, .ref 20] } : Obj)
noncomputable def st1_32 (P : Params) : Obj := ({ cls := .type "type", data := .cls { name := Str.ofString "TermError", bases := [.type "Exception"], mro := [.ref 32, .type "Exception", .type "BaseException", .type "object"], ns := 31, qualname := Str.ofString "TermError" }, slots := #[some (.ref 15), none, some (.str (Str.ofString "TermError") 189), some (.str (Str.ofString "TermError") 197), some (.builtin "Exception.__new__"), some (.bool true)] } : Obj)
noncomputable def st1H : Params → Heap := hpK 25 st1_2 st1_3 st1_12 st1_32
noncomputable def st1 : World → OsState → Shared := stK st1H 218

noncomputable def st2_2 (P : Params) : Obj := (dictN P 2 [⟨Str.ofString "type.__subclasses__.Exception.0", 214, .int 32 0⟩, ⟨Str.ofString "type.__subclasses__.Exception.n", 215, .int 1 0⟩])
noncomputable def st2_3 (P : Params) : Obj := (dictK P 14 [⟨Str.ofString "__name__", 165, .str (Str.ofString "termcore.cellwidths") 234⟩, ⟨Str.ofString "__doc__", 166, .none⟩, ⟨Str.ofString "__package__", 167, .none⟩, ⟨Str.ofString "__loader__", 168, .builtin "__main__.__loader__#opaque"⟩, ⟨Str.ofString "__spec__", 169, .none⟩, ⟨Str.ofString "__annotations__", 170, .ref 6⟩, ⟨Str.ofString "__builtins__", 171, .ref 4⟩, ⟨Str.ofString "__file__", 173, .str (Str.ofString "/claim/cut.py") 172⟩, ⟨Str.ofString "__cached__", 174, .none⟩, ⟨Str.ofString "TermError", 217, .ref 32⟩, ⟨Str.ofString "BadSize", 233, .ref 45⟩, ⟨Str.ofString "WIDTH_JOINER", 237, .int 8205 236⟩, ⟨Str.ofString "WIDTH_PICTURE", 239, .int 65039 238⟩, ⟨Str.ofString "WIDTH_KEYCAP", 241, .int 8419 240⟩])
noncomputable def st2_12 (P : Params) : Obj := ({ cls := .none, data := .fields #[.int 2 0, .int 0 0, .ref 20, .int 6 0, .int 0 0, .ref 41] } : Obj)
noncomputable def st2_32 (P : Params) : Obj := ({ cls := .type "type", data := .cls { name := Str.ofString "TermError", bases := [.type "Exception"], mro := [.ref 32, .type "Exception", .type "BaseException", .type "object"], ns := 31, qualname := Str.ofString "TermError", subclasses := [.ref 45] }, slots := #[some (.ref 15), none, some (.str (Str.ofString "TermError") 189), some (.str (Str.ofString "TermError") 197), some (.builtin "Exception.__new__"), some (.bool true)] } : Obj)
noncomputable def st2H : Params → Heap := hpK 37 st2_2 st2_3 st2_12 st2_32
noncomputable def st2 : World → OsState → Shared := stK st2H 242

noncomputable def st3_2 (P : Params) : Obj := (dictN P 2 [⟨Str.ofString "type.__subclasses__.Exception.0", 214, .int 32 0⟩, ⟨Str.ofString "type.__subclasses__.Exception.n", 215, .int 1 0⟩])
noncomputable def st3_3 (P : Params) : Obj := (dictK P 18 [⟨Str.ofString "__name__", 165, .str (Str.ofString "termcore.cellwidths") 234⟩, ⟨Str.ofString "__doc__", 166, .none⟩, ⟨Str.ofString "__package__", 167, .none⟩, ⟨Str.ofString "__loader__", 168, .builtin "__main__.__loader__#opaque"⟩, ⟨Str.ofString "__spec__", 169, .none⟩, ⟨Str.ofString "__annotations__", 170, .ref 6⟩, ⟨Str.ofString "__builtins__", 171, .ref 4⟩, ⟨Str.ofString "__file__", 173, .str (Str.ofString "/claim/cut.py") 172⟩, ⟨Str.ofString "__cached__", 174, .none⟩, ⟨Str.ofString "TermError", 217, .ref 32⟩, ⟨Str.ofString "BadSize", 233, .ref 45⟩, ⟨Str.ofString "WIDTH_JOINER", 237, .int 8205 236⟩, ⟨Str.ofString "WIDTH_PICTURE", 239, .int 65039 238⟩, ⟨Str.ofString "WIDTH_KEYCAP", 241, .int 8419 240⟩, ⟨Str.ofString "FIRST_MODIFIER", 244, .int 127995 242⟩, ⟨Str.ofString "LAST_MODIFIER", 245, .int 127999 243⟩, ⟨Str.ofString "FIRST_REGION", 248, .int 127462 246⟩, ⟨Str.ofString "LAST_REGION", 249, .int 127487 247⟩])
noncomputable def st3_12 (P : Params) : Obj := ({ cls := .none, data := .fields #[.int 2 0, .int 0 0, .ref 20, .int 6 0, .int 0 0, .ref 41] } : Obj)
noncomputable def st3_32 (P : Params) : Obj := ({ cls := .type "type", data := .cls { name := Str.ofString "TermError", bases := [.type "Exception"], mro := [.ref 32, .type "Exception", .type "BaseException", .type "object"], ns := 31, qualname := Str.ofString "TermError", subclasses := [.ref 45] }, slots := #[some (.ref 15), none, some (.str (Str.ofString "TermError") 189), some (.str (Str.ofString "TermError") 197), some (.builtin "Exception.__new__"), some (.bool true)] } : Obj)
noncomputable def st3H : Params → Heap := hpK 45 st3_2 st3_3 st3_12 st3_32
noncomputable def st3 : World → OsState → Shared := stK st3H 250

noncomputable def st4_2 (P : Params) : Obj := (dictN P 2 [⟨Str.ofString "type.__subclasses__.Exception.0", 214, .int 32 0⟩, ⟨Str.ofString "type.__subclasses__.Exception.n", 215, .int 1 0⟩])
noncomputable def st4_3 (P : Params) : Obj := (dictK P 21 [⟨Str.ofString "__name__", 165, .str (Str.ofString "termcore.cellwidths") 234⟩, ⟨Str.ofString "__doc__", 166, .none⟩, ⟨Str.ofString "__package__", 167, .none⟩, ⟨Str.ofString "__loader__", 168, .builtin "__main__.__loader__#opaque"⟩, ⟨Str.ofString "__spec__", 169, .none⟩, ⟨Str.ofString "__annotations__", 170, .ref 6⟩, ⟨Str.ofString "__builtins__", 171, .ref 4⟩, ⟨Str.ofString "__file__", 173, .str (Str.ofString "/claim/cut.py") 172⟩, ⟨Str.ofString "__cached__", 174, .none⟩, ⟨Str.ofString "TermError", 217, .ref 32⟩, ⟨Str.ofString "BadSize", 233, .ref 45⟩, ⟨Str.ofString "WIDTH_JOINER", 237, .int 8205 236⟩, ⟨Str.ofString "WIDTH_PICTURE", 239, .int 65039 238⟩, ⟨Str.ofString "WIDTH_KEYCAP", 241, .int 8419 240⟩, ⟨Str.ofString "FIRST_MODIFIER", 244, .int 127995 242⟩, ⟨Str.ofString "LAST_MODIFIER", 245, .int 127999 243⟩, ⟨Str.ofString "FIRST_REGION", 248, .int 127462 246⟩, ⟨Str.ofString "LAST_REGION", 249, .int 127487 247⟩, ⟨Str.ofString "width_in_ranges", 260, .ref 62⟩, ⟨Str.ofString "width_check_ranges", 271, .ref 69⟩, ⟨Str.ofString "WidthTable", 321, .ref 100⟩])
noncomputable def st4_12 (P : Params) : Obj := ({ cls := .none, data := .fields #[.int 2 0, .int 0 0, .ref 20, .int 6 0, .int 0 0, .ref 41, .int 14 0, .int 0 0, .ref 61, .int 23 0, .int 0 0, .ref 68, .int 29 0, .int 0 0, .ref 75] } : Obj)
noncomputable def st4_32 (P : Params) : Obj := ({ cls := .type "type", data := .cls { name := Str.ofString "TermError", bases := [.type "Exception"], mro := [.ref 32, .type "Exception", .type "BaseException", .type "object"], ns := 31, qualname := Str.ofString "TermError", subclasses := [.ref 45] }, slots := #[some (.ref 15), none, some (.str (Str.ofString "TermError") 189), some (.str (Str.ofString "TermError") 197), some (.builtin "Exception.__new__"), some (.bool true)] } : Obj)
noncomputable def st4H : Params → Heap := hpK 94 st4_2 st4_3 st4_12 st4_32
noncomputable def st4 : World → OsState → Shared := stK st4H 322

noncomputable def st5_2 (P : Params) : Obj := (dictN P 2 [⟨Str.ofString "type.__subclasses__.Exception.0", 214, .int 32 0⟩, ⟨Str.ofString "type.__subclasses__.Exception.n", 215, .int 1 0⟩])
noncomputable def st5_3 (P : Params) : Obj := (dictK P 33 [⟨Str.ofString "__name__", 165, .str (Str.ofString "law_og0238_01") 409⟩, ⟨Str.ofString "__doc__", 166, .none⟩, ⟨Str.ofString "__package__", 167, .none⟩, ⟨Str.ofString "__loader__", 168, .builtin "__main__.__loader__#opaque"⟩, ⟨Str.ofString "__spec__", 169, .none⟩, ⟨Str.ofString "__annotations__", 170, .ref 6⟩, ⟨Str.ofString "__builtins__", 171, .ref 4⟩, ⟨Str.ofString "__file__", 173, .str (Str.ofString "/claim/cut.py") 172⟩, ⟨Str.ofString "__cached__", 174, .none⟩, ⟨Str.ofString "TermError", 217, .ref 32⟩, ⟨Str.ofString "BadSize", 233, .ref 45⟩, ⟨Str.ofString "WIDTH_JOINER", 237, .int 8205 236⟩, ⟨Str.ofString "WIDTH_PICTURE", 239, .int 65039 238⟩, ⟨Str.ofString "WIDTH_KEYCAP", 241, .int 8419 240⟩, ⟨Str.ofString "FIRST_MODIFIER", 244, .int 127995 242⟩, ⟨Str.ofString "LAST_MODIFIER", 245, .int 127999 243⟩, ⟨Str.ofString "FIRST_REGION", 248, .int 127462 246⟩, ⟨Str.ofString "LAST_REGION", 249, .int 127487 247⟩, ⟨Str.ofString "width_in_ranges", 260, .ref 62⟩, ⟨Str.ofString "width_check_ranges", 271, .ref 69⟩, ⟨Str.ofString "WidthTable", 321, .ref 100⟩, ⟨Str.ofString "is_region", 328, .ref 111⟩, ⟨Str.ofString "is_modifier", 335, .ref 118⟩, ⟨Str.ofString "width_bare", 342, .ref 125⟩, ⟨Str.ofString "joins", 348, .ref 130⟩, ⟨Str.ofString "cluster_width", 354, .ref 135⟩, ⟨Str.ofString "split_clusters", 364, .ref 142⟩, ⟨Str.ofString "codes_width", 370, .ref 147⟩, ⟨Str.ofString "cells_of_codes", 382, .ref 154⟩, ⟨Str.ofString "codes_cut", 394, .ref 161⟩, ⟨Str.ofString "codes_cut_ahead", 408, .ref 168⟩, ⟨Str.ofString "_law_sorts", 423, .ref 169⟩, ⟨Str.ofString "_law_marks", 428, .ref 170⟩])
noncomputable def st5_12 (P : Params) : Obj := ({ cls := .none, data := .fields #[.int 2 0, .int 0 0, .ref 20, .int 6 0, .int 0 0, .ref 41, .int 14 0, .int 0 0, .ref 61, .int 23 0, .int 0 0, .ref 68, .int 29 0, .int 0 0, .ref 75, .int 45 0, .int 0 0, .ref 110, .int 47 0, .int 0 0, .ref 117, .int 49 0, .int 0 0, .ref 124, .int 51 0, .int 0 0, .ref 129, .int 61 0, .int 0 0, .ref 134, .int 69 0, .int 0 0, .ref 141, .int 77 0, .int 0 0, .ref 146, .int 79 0, .int 0 0, .ref 153, .int 87 0, .int 0 0, .ref 160, .int 95 0, .int 0 0, .ref 167] } : Obj)
noncomputable def st5_32 (P : Params) : Obj := ({ cls := .type "type", data := .cls { name := Str.ofString "TermError", bases := [.type "Exception"], mro := [.ref 32, .type "Exception", .type "BaseException", .type "object"], ns := 31, qualname := Str.ofString "TermError", subclasses := [.ref 45] }, slots := #[some (.ref 15), none, some (.str (Str.ofString "TermError") 189), some (.str (Str.ofString "TermError") 197), some (.builtin "Exception.__new__"), some (.bool true)] } : Obj)
noncomputable def st5H : Params → Heap := hpK 160 st5_2 st5_3 st5_12 st5_32
noncomputable def st5 : World → OsState → Shared := stK st5H 429

noncomputable def st6_2 (P : Params) : Obj := (dictN P 2 [⟨Str.ofString "type.__subclasses__.Exception.0", 214, .int 32 0⟩, ⟨Str.ofString "type.__subclasses__.Exception.n", 215, .int 1 0⟩])
noncomputable def st6_3 (P : Params) : Obj := (dictK P 43 [⟨Str.ofString "__name__", 165, .str (Str.ofString "law_og0238_01") 409⟩, ⟨Str.ofString "__doc__", 166, .none⟩, ⟨Str.ofString "__package__", 167, .none⟩, ⟨Str.ofString "__loader__", 168, .builtin "__main__.__loader__#opaque"⟩, ⟨Str.ofString "__spec__", 169, .none⟩, ⟨Str.ofString "__annotations__", 170, .ref 6⟩, ⟨Str.ofString "__builtins__", 171, .ref 4⟩, ⟨Str.ofString "__file__", 173, .str (Str.ofString "/claim/cut.py") 172⟩, ⟨Str.ofString "__cached__", 174, .none⟩, ⟨Str.ofString "TermError", 217, .ref 32⟩, ⟨Str.ofString "BadSize", 233, .ref 45⟩, ⟨Str.ofString "WIDTH_JOINER", 237, .int 8205 236⟩, ⟨Str.ofString "WIDTH_PICTURE", 239, .int 65039 238⟩, ⟨Str.ofString "WIDTH_KEYCAP", 241, .int 8419 240⟩, ⟨Str.ofString "FIRST_MODIFIER", 244, .int 127995 242⟩, ⟨Str.ofString "LAST_MODIFIER", 245, .int 127999 243⟩, ⟨Str.ofString "FIRST_REGION", 248, .int 127462 246⟩, ⟨Str.ofString "LAST_REGION", 249, .int 127487 247⟩, ⟨Str.ofString "width_in_ranges", 260, .ref 62⟩, ⟨Str.ofString "width_check_ranges", 271, .ref 69⟩, ⟨Str.ofString "WidthTable", 321, .ref 100⟩, ⟨Str.ofString "is_region", 328, .ref 111⟩, ⟨Str.ofString "is_modifier", 335, .ref 118⟩, ⟨Str.ofString "width_bare", 342, .ref 125⟩, ⟨Str.ofString "joins", 348, .ref 130⟩, ⟨Str.ofString "cluster_width", 354, .ref 135⟩, ⟨Str.ofString "split_clusters", 364, .ref 142⟩, ⟨Str.ofString "codes_width", 370, .ref 147⟩, ⟨Str.ofString "cells_of_codes", 382, .ref 154⟩, ⟨Str.ofString "codes_cut", 394, .ref 161⟩, ⟨Str.ofString "codes_cut_ahead", 408, .ref 168⟩, ⟨Str.ofString "_law_sorts", 423, .ref 169⟩, ⟨Str.ofString "_law_marks", 428, .ref 170⟩, ⟨Str.ofString "_law_regions", 431, .ref 171⟩, ⟨Str.ofString "_law_pictures", 434, .ref 172⟩, ⟨Str.ofString "_law_draw", 443, .ref 179⟩, ⟨Str.ofString "_law_wide", 450, .ref 186⟩, ⟨Str.ofString "_law_row", 460, .ref 193⟩, ⟨Str.ofString "_law_begins", 466, .ref 198⟩, ⟨Str.ofString "_law_parts", 472, .ref 203⟩, ⟨Str.ofString "_law_takes", 478, .ref 208⟩, ⟨Str.ofString "_law_longest", 484, .ref 213⟩, ⟨Str.ofString "law", 490, .ref 218⟩])
noncomputable def st6_12 (P : Params) : Obj := ({ cls := .none, data := .fields #[.int 2 0, .int 0 0, .ref 20, .int 6 0, .int 0 0, .ref 41, .int 14 0, .int 0 0, .ref 61, .int 23 0, .int 0 0, .ref 68, .int 29 0, .int 0 0, .ref 75, .int 45 0, .int 0 0, .ref 110, .int 47 0, .int 0 0, .ref 117, .int 49 0, .int 0 0, .ref 124, .int 51 0, .int 0 0, .ref 129, .int 61 0, .int 0 0, .ref 134, .int 69 0, .int 0 0, .ref 141, .int 77 0, .int 0 0, .ref 146, .int 79 0, .int 0 0, .ref 153, .int 87 0, .int 0 0, .ref 160, .int 95 0, .int 0 0, .ref 167, .int 109 0, .int 0 0, .ref 178, .int 113 0, .int 0 0, .ref 185, .int 119 0, .int 0 0, .ref 192, .int 127 0, .int 0 0, .ref 197, .int 142 0, .int 0 0, .ref 202, .int 145 0, .int 0 0, .ref 207, .int 153 0, .int 0 0, .ref 212, .int 156 0, .int 0 0, .ref 217] } : Obj)
noncomputable def st6_32 (P : Params) : Obj := ({ cls := .type "type", data := .cls { name := Str.ofString "TermError", bases := [.type "Exception"], mro := [.ref 32, .type "Exception", .type "BaseException", .type "object"], ns := 31, qualname := Str.ofString "TermError", subclasses := [.ref 45] }, slots := #[some (.ref 15), none, some (.str (Str.ofString "TermError") 189), some (.str (Str.ofString "TermError") 197), some (.builtin "Exception.__new__"), some (.bool true)] } : Obj)
noncomputable def st6H : Params → Heap := hpK 208 st6_2 st6_3 st6_12 st6_32
noncomputable def st6 : World → OsState → Shared := stK st6H 491

theorem hp_pre (w : World) (os : OsState) : topGo treeTable pg w 11 annK 12 (S0K w os) (topStub pg) = some (stA w os, ⟨denote treeTable cK, cK, qK, BK⟩) := by kernel_rfl
theorem hp_block (w : World) (os : OsState) : segRun treeTable pg w 11 annK 1 1 (stA w os) (blockOf (behindTheImports pg) envK cK qK BK) = some (.next, stA w os, cK, qK) := by kernel_rfl
noncomputable def pos1 : Pos := ⟨2, 0, 5, 24⟩
theorem hp_1 (w : World) (os : OsState) : segRun treeTable pg w 11 annK 1 239 (stA w os) (piecesOf (segK 0 2) envK cK qK BK) = some (.next, st1 w os, cK, pos1) := by kernel_rfl
noncomputable def pos2 : Pos := ⟨11, 0, 11, 12⟩
theorem hp_2 (w : World) (os : OsState) : segRun treeTable pg w 11 annK 1 250 (st1 w os) (piecesOf (segK 2 5) envK cK pos1 BK) = some (.next, st2 w os, cK, pos2) := by kernel_rfl
noncomputable def pos3 : Pos := ⟨13, 14, 13, 25⟩
theorem hp_3 : ∀ (w : World) (os : OsState), segRun treeTable pg w 11 annK 1 131 (st2 w os) (piecesOf (segK 7 2) envK cK pos2 BK) = some (.next, st3 w os, cK, pos3) := byRow2 "special-get-raises" (P := fun w => ∀ os, segRun treeTable pg w 11 annK 1 131 (st2 w os) (piecesOf (segK 7 2) envK cK pos2 BK) = some (.next, st3 w os, cK, pos3)) (fun w os => by kernel_rfl) (fun w os => by kernel_rfl)
noncomputable def pos4 : Pos := ⟨29, 0, 44, 50⟩
theorem hp_4 (w : World) (os : OsState) : segRun treeTable pg w 11 annK 1 358 (st3 w os) (piecesOf (segK 9 3) envK cK pos3 BK) = some (.next, st4 w os, cK, pos4) := by kernel_rfl
noncomputable def pos5 : Pos := ⟨106, 0, 106, 10⟩
theorem hp_5 (w : World) (os : OsState) : segRun treeTable pg w 11 annK 1 347 (st4 w os) (piecesOf (segK 12 13) envK cK pos4 BK) = some (.next, st5 w os, cK, pos5) := by kernel_rfl
noncomputable def pos6 : Pos := ⟨156, 0, 180, 23⟩
theorem hp_6 (w : World) (os : OsState) : segRun treeTable pg w 11 annK 1 247 (st5 w os) (piecesOf (segK 25 10) envK cK pos5 BK) = some (.next, st6 w os, cK, pos6) := by kernel_rfl
theorem hp_fin (w : World) (os : OsState) : topRun treeTable pg w 11 annK 2 (st6 w os) ⟨doneF .next, cK, pos6, BK⟩ = some (st6 w os) := by kernel_rfl
noncomputable def MK : Nat := (12 + (1 + (239 + (250 + (131 + (358 + (347 + (247 + 2))))))))
theorem hp_body : behindTheImports pg = segK 0 2 ++ (segK 2 5 ++ (segK 7 2 ++ (segK 9 3 ++ (segK 12 13 ++ (segK 25 10 ++ []))))) := by kernel_rfl
theorem hp_chain (w : World) (os : OsState) : topRun treeTable pg w 11 annK (239 + (250 + (131 + (358 + (347 + (247 + 2)))))) (stA w os) (restOf (segK 0 2 ++ (segK 2 5 ++ (segK 7 2 ++ (segK 9 3 ++ (segK 12 13 ++ (segK 25 10 ++ [])))))) envK cK qK BK) = some (st6 w os) := piece_app (rest := segK 2 5 ++ (segK 7 2 ++ (segK 9 3 ++ (segK 12 13 ++ (segK 25 10 ++ []))))) (hp_1 w os) (piece_app (rest := segK 7 2 ++ (segK 9 3 ++ (segK 12 13 ++ (segK 25 10 ++ [])))) (hp_2 w os) (piece_app (rest := segK 9 3 ++ (segK 12 13 ++ (segK 25 10 ++ []))) (hp_3 w os) (piece_app (rest := segK 12 13 ++ (segK 25 10 ++ [])) (hp_4 w os) (piece_app (rest := segK 25 10 ++ []) (hp_5 w os) (piece_app (rest := []) (hp_6 w os) (hp_fin w os))))))
theorem hp_run (w : World) (os : OsState) : topRun treeTable pg w 11 annK MK (S0K w os) (topStub pg) = some (st6 w os) := go_top (hp_pre w os) (piece_block (hp_block w os) ((congrArg (fun b => topRun treeTable pg w 11 annK (239 + (250 + (131 + (358 + (347 + (247 + 2)))))) (stA w os) (restOf b envK cK qK BK)) hp_body).trans (hp_chain w os)))
end Mine
end

section
open PySem PySem.W PyProof.Rows PySem.Calls
set_option Elab.async false
set_option linter.unusedVariables false
set_option maxRecDepth 100000
namespace Mine
noncomputable def HK : Hook := kHook KK kas (fun _ => by kernel_rfl)
/-- the text without the three statements that are read loosely -/
noncomputable def viewK : Program := { pg with main := { pg.main with body := pg.main.body.take 1 ++ ((pg.main.body.drop 2).take 5 ++ pg.main.body.drop 9) } }
noncomputable def looseK : List Str := [Str.ofString "TermError", Str.ofString "FIRST_MODIFIER", Str.ofString "LAST_MODIFIER", Str.ofString "FIRST_REGION", Str.ofString "LAST_REGION"]
noncomputable def lvK : List (Str × WData) := [(Str.ofString "FIRST_MODIFIER", .int 127995), (Str.ofString "LAST_MODIFIER", .int 127999), (Str.ofString "FIRST_REGION", .int 127462), (Str.ofString "LAST_REGION", .int 127487)]
noncomputable def rowK : RowW := PySem.Challenge.rw_og0238_01.row.toRowW
noncomputable def XtK (s : Shared) : Bool := xlAt viewK lvK s && recOk rowK.records s

theorem hp_open : ∀ w : World, (fencedOpening treeTable pg w 3258).map (fun s => (s.heap, s.gens, s.drawn, s.toks)) = some (boot_heap w.params, Array.mk [], boot_drawn, boot_toks) :=
  boot_open (p := pg) (N := 3258) (by kernel_rfl) (by kernel_rfl) (fun s => by kernel_rfl)
theorem hp_size (w : World) : ((boot_heap w.params).isNs mainGlobals && (Array.mk [] : Array GenState).size == 0, (boot_heap w.params).objs.size, (boot_heap w.params).nsMap mainGlobals "__annotations__") = (true, 11, annK) := by kernel_rfl
theorem hp_left : LeftO pg viewK looseK XtK HK.obs HK.val 3258 :=
  LeftO.of_pieces (H₁ := st6H) (gs₁ := Array.mk []) (d₁ := {}) (k₁ := 491) (m₀ := 11) (ann := annK) (M := MK) hp_open hp_size hp_run (by kernel_rfl) (fun w => funext fun os => by kernel_rfl)
end Mine
end

section
open PySem PyProof.Rows PySem.W
set_option Elab.async false
set_option linter.unusedVariables false
set_option maxRecDepth 100000
namespace Mine

/-- the text's own names and objects -/
noncomputable def sys (w : World) (mg mb : Str → Option Value) : Sys := { mg := mg, mb := mb, K := KK w.params, C := 100, fv := fun k => k, gt := theGT }

noncomputable def isFn? : ScopeKind → Bool
  | .function => true
  | _ => false
theorem isFn_spec {k : ScopeKind} (h : isFn? k = true) : k = .function := by cases k <;> first | rfl | cases h
theorem eq_false_of {b : Bool} (h : (!b) = true) : b = false := not_false' h
/-- what a def of the text is asked -/
noncomputable def okDef (r : DefRow) : Bool := isFn? r.scope.kind && (!r.scope.isCoroutine && (!r.scope.isGenerator && (decide r.d.ps.Nodup && r.d.ps.all fun x => isLC (cxOf r.d) x)))

section
variable {w : World} {mg mb : Str → Option Value}
theorem at_of {k mt code : Nat} {name qual md : Str} {r : DefRow} (hl : (KK w.params).lookup k = some (fnK name qual md mt code r)) (hc : codeIn (KK w.params) (.ref code) qual = true) (ho : okDef r = true)
    (hb : ∀ vals : List Value, vals.length = r.d.ps.length → bindArgs (fnD name qual md mt code r) ⟨vals, []⟩ = pure (r.d.ps.zip vals)) : FnAt (sys w mg mb) k r.d.ps r.d.body (cxOf r.d) := by
  obtain ⟨o1, ho⟩ := Bool.and_eq_true_iff.mp ho
  obtain ⟨o2, ho⟩ := Bool.and_eq_true_iff.mp ho
  obtain ⟨o3, ho⟩ := Bool.and_eq_true_iff.mp ho
  obtain ⟨o4, ho⟩ := Bool.and_eq_true_iff.mp ho
  exact ⟨⟨_, _, hl, rfl, rfl, rfl, rfl, rfl, rfl, isFn_spec o1, eq_false_of o2, eq_false_of o3, fun h X => codeRec_of X hc, hb⟩, of_decide_eq_true o4, fun x hx => isLC_of (List.all_eq_true.mp ho x hx)⟩
theorem bind1 {ps : List Str} {f : List Value → Sem (List (Str × Value))} (hp : ps.length = 1) (h : ∀ a, f [a] = pure (ps.zip [a])) : ∀ vals : List Value, vals.length = ps.length → f vals = pure (ps.zip vals) := fun vals hv => by
  obtain ⟨a, rfl⟩ := List.length_eq_one_iff.mp (hv.trans hp)
  exact h a
theorem len_succ {α : Type} {n : Nat} : ∀ {l : List α}, l.length = n + 1 → ∃ a r, l = a :: r ∧ r.length = n
  | _ :: _, h => ⟨_, _, rfl, Nat.succ.inj h⟩
theorem bind2 {ps : List Str} {f : List Value → Sem (List (Str × Value))} (hp : ps.length = 2) (h : ∀ a b, f [a, b] = pure (ps.zip [a, b])) : ∀ vals : List Value, vals.length = ps.length → f vals = pure (ps.zip vals) := fun vals hv => by
  obtain ⟨a, r, rfl, h2⟩ := len_succ (hv.trans hp)
  obtain ⟨b, rfl⟩ := List.length_eq_one_iff.mp h2
  exact h a b
theorem bind3 {ps : List Str} {f : List Value → Sem (List (Str × Value))} (hp : ps.length = 3) (h : ∀ a b c, f [a, b, c] = pure (ps.zip [a, b, c])) : ∀ vals : List Value, vals.length = ps.length → f vals = pure (ps.zip vals) := fun vals hv => by
  obtain ⟨a, r, rfl, h2⟩ := len_succ (hv.trans hp)
  obtain ⟨b, r, rfl, h3⟩ := len_succ h2
  obtain ⟨c, rfl⟩ := List.length_eq_one_iff.mp h3
  exact h a b c

/-- the same with the compiled body -/
theorem ent_of {k mt code : Nat} {name qual md : Str} {r : DefRow} {x : String} {ms : List MS} {ow j ar : Nat} (hl : (KK w.params).lookup k = some (fnK name qual md mt code r)) (hc : codeIn (KK w.params) (.ref code) qual = true)
    (hb : ∀ vals : List Value, vals.length = r.d.ps.length → bindArgs (fnD name qual md mt code r) ⟨vals, []⟩ = pure (r.d.ps.zip vals)) (hm : comp r.d x = some ms)
    (ho : (okDef r && (ndB (slotsOf r.d) && (owOf r.d x == ow && (ar == r.d.ps.length && decide (r.d.ps.length ≤ ow))))) = true) : EntOk (sys w mg mb) k ms ow j ar := by
  obtain ⟨o1, ho⟩ := Bool.and_eq_true_iff.mp ho
  obtain ⟨o2, ho⟩ := Bool.and_eq_true_iff.mp ho
  obtain ⟨o3, ho⟩ := Bool.and_eq_true_iff.mp ho
  obtain ⟨o4, ho⟩ := Bool.and_eq_true_iff.mp ho
  exact ⟨r.d, x, at_of hl hc o1 hb, hm, (beq_iff_eq.mp o3).symm, beq_iff_eq.mp o4, o2, of_decide_eq_true ho⟩
theorem e_ranges : EntOk (sys w mg mb) 62 ms_ranges 99 6 2 := ent_of rfl (by kernel_rfl) (bind2 (by kernel_rfl) (fun _ _ => rfl)) comp_ranges (by kernel_rfl)
theorem e_check : EntOk (sys w mg mb) 69 ms_check 99 7 1 := ent_of rfl (by kernel_rfl) (bind1 (by kernel_rfl) (fun _ => rfl)) comp_check (by kernel_rfl)
theorem e_widthOf : EntOk (sys w mg mb) 90 ms_widthOf 99 3 2 := ent_of rfl (by kernel_rfl) (bind2 (by kernel_rfl) (fun _ _ => rfl)) comp_widthOf (by kernel_rfl)
theorem e_isPic : EntOk (sys w mg mb) 97 ms_isPic 99 3 2 := ent_of rfl (by kernel_rfl) (bind2 (by kernel_rfl) (fun _ _ => rfl)) comp_isPic (by kernel_rfl)
theorem e_isReg : EntOk (sys w mg mb) 111 ms_isReg 99 3 1 := ent_of rfl (by kernel_rfl) (bind1 (by kernel_rfl) (fun _ => rfl)) comp_isReg (by kernel_rfl)
theorem e_isMod : EntOk (sys w mg mb) 118 ms_isMod 99 3 1 := ent_of rfl (by kernel_rfl) (bind1 (by kernel_rfl) (fun _ => rfl)) comp_isMod (by kernel_rfl)
theorem e_bare : EntOk (sys w mg mb) 125 ms_bare 99 3 1 := ent_of rfl (by kernel_rfl) (bind1 (by kernel_rfl) (fun _ => rfl)) comp_bare (by kernel_rfl)
theorem e_joins : EntOk (sys w mg mb) 130 ms_joins 99 3 3 := ent_of rfl (by kernel_rfl) (bind3 (by kernel_rfl) (fun _ _ _ => rfl)) comp_joins (by kernel_rfl)
theorem e_cw : EntOk (sys w mg mb) 135 ms_cw 99 3 2 := ent_of rfl (by kernel_rfl) (bind2 (by kernel_rfl) (fun _ _ => rfl)) comp_cw (by kernel_rfl)
theorem e_split : EntOk (sys w mg mb) 142 ms_split 2 5 2 := ent_of rfl (by kernel_rfl) (bind2 (by kernel_rfl) (fun _ _ => rfl)) comp_split (by kernel_rfl)
theorem e_cwid : EntOk (sys w mg mb) 147 ms_cwid 99 3 2 := ent_of rfl (by kernel_rfl) (bind2 (by kernel_rfl) (fun _ _ => rfl)) comp_cwid (by kernel_rfl)
theorem e_cells : EntOk (sys w mg mb) 154 ms_cells 3 6 3 := ent_of rfl (by kernel_rfl) (bind3 (by kernel_rfl) (fun _ _ _ => rfl)) comp_cells (by kernel_rfl)
theorem e_cut : EntOk (sys w mg mb) 161 ms_cut 3 6 3 := ent_of rfl (by kernel_rfl) (bind3 (by kernel_rfl) (fun _ _ _ => rfl)) comp_cut (by kernel_rfl)
theorem e_ahead : EntOk (sys w mg mb) 168 ms_ahead 6 8 3 := ent_of rfl (by kernel_rfl) (bind3 (by kernel_rfl) (fun _ _ _ => rfl)) comp_ahead (by kernel_rfl)
theorem e_wide : EntOk (sys w mg mb) 186 ms_wide 99 3 1 := ent_of rfl (by kernel_rfl) (bind1 (by kernel_rfl) (fun _ => rfl)) comp_wide (by kernel_rfl)
theorem e_begins : EntOk (sys w mg mb) 198 ms_begins 99 6 2 := ent_of rfl (by kernel_rfl) (bind2 (by kernel_rfl) (fun _ _ => rfl)) comp_begins (by kernel_rfl)
theorem e_parts : EntOk (sys w mg mb) 203 ms_parts 99 4 1 := ent_of rfl (by kernel_rfl) (bind1 (by kernel_rfl) (fun _ => rfl)) comp_parts (by kernel_rfl)
theorem e_takes : EntOk (sys w mg mb) 208 ms_takes 99 3 2 := ent_of rfl (by kernel_rfl) (bind2 (by kernel_rfl) (fun _ _ => rfl)) comp_takes (by kernel_rfl)
theorem e_longest : EntOk (sys w mg mb) 213 ms_longest 99 4 3 := ent_of rfl (by kernel_rfl) (bind3 (by kernel_rfl) (fun _ _ _ => rfl)) comp_longest (by kernel_rfl)
/-- all rows of a table -/
noncomputable def AllT {α β : Type} (P : α → β → Prop) : List (α × β) → Prop
  | [] => True
  | x :: r => P x.1 x.2 ∧ AllT P r
theorem AllT.all {α β : Type} {P : α → β → Prop} : ∀ {l : List (α × β)}, AllT P l → ∀ k v, (k, v) ∈ l → P k v
  | _ :: _, h, _, _, .head _ => h.1
  | _ :: _, h, k, v, .tail _ m => AllT.all h.2 k v m
theorem AllT.look {α β : Type} [BEq α] [LawfulBEq α] {P : α → β → Prop} {l : List (α × β)} (h : AllT P l) {k : α} {v : β} (e : l.lookup k = some v) : P k v := by
  induction l with
  | nil => cases e
  | cons x r ih =>
    obtain ⟨a, b⟩ := x
    cases hk : k == a with
    | true => rw [List.lookup_cons, hk] at e; cases e; rw [beq_iff_eq.mp hk]; exact h.1
    | false => rw [List.lookup_cons, hk] at e; exact ih h.2 e
theorem ents : AllT (fun k (e : List MS × Nat × Nat × Nat) => EntOk (sys w mg mb) k e.1 e.2.1 e.2.2.1 e.2.2.2) entTab := ⟨e_ranges, e_check, e_widthOf, e_isPic, e_isReg, e_isMod, e_bare, e_joins, e_cw, e_split, e_cwid, e_cells, e_cut, e_ahead, e_wide, e_begins, e_parts, e_takes, e_longest, trivial⟩
theorem entries : ∀ k ms ow j ar, entry k = some (ms, ow, j, ar) → EntOk (sys w mg mb) k ms ow j ar := fun _ _ _ _ _ h => AllT.look ents h
end
end Mine
end

section
open PySem PyProof.Rows PySem.W
set_option Elab.async false
set_option linter.unusedVariables false
set_option maxRecDepth 100000
namespace Mine
section
variable {w : World} {mg mb : Str → Option Value} {h : Heap}

theorem attrName_cases {i : Nat} {x : Str} (e : attrName i = some x) : x = Str.ofString "wide" ∨ x = Str.ofString "marks" ∨ x = Str.ofString "joiners" := by
  unfold attrName at e
  split at e
  · cases e; exact .inl rfl
  · split at e
    · cases e; exact .inr (.inl rfl)
    · split at e
      · cases e; exact .inr (.inr rfl)
      · cases e

noncomputable def FnP (w : World) (mg : Str → Option Value) (x : Str) (k : Nat) : Prop := mg x = some (.ref k) ∧ ∃ o fd, (KK w.params).lookup k = some o ∧ o.data = .func fd
theorem fn_in {name qual md : Str} {k mt code : Nat} {r : DefRow} (h2 : (KK w.params).lookup k = some (fnK name qual md mt code r)) : ∃ o fd, (KK w.params).lookup k = some o ∧ o.data = .func fd := ⟨_, _, h2, rfl⟩
theorem fnP {x name qual md : Str} {k mt code : Nat} {r : DefRow} (hg : h.Ns mainGlobals mg) (KX : (KK w.params).In h) (h1 : nsIn (KK w.params) mainGlobals x = some (some (.ref k))) (h2 : (KK w.params).lookup k = some (fnK name qual md mt code r)) : FnP w mg x k := ⟨mg_of KX hg h1, _, _, h2, rfl⟩
theorem fn_ok (hg : h.Ns mainGlobals mg) (KX : (KK w.params).In h) : AllT (FnP w mg) theGT.fn :=
  ⟨fnP hg KX (by kernel_rfl) rfl, fnP hg KX (by kernel_rfl) rfl, fnP hg KX (by kernel_rfl) rfl, fnP hg KX (by kernel_rfl) rfl, fnP hg KX (by kernel_rfl) rfl, fnP hg KX (by kernel_rfl) rfl, fnP hg KX (by kernel_rfl) rfl, fnP hg KX (by kernel_rfl) rfl, fnP hg KX (by kernel_rfl) rfl, fnP hg KX (by kernel_rfl) rfl, fnP hg KX (by kernel_rfl) rfl, fnP hg KX (by kernel_rfl) rfl, fnP hg KX (by kernel_rfl) rfl, fnP hg KX (by kernel_rfl) rfl, fnP hg KX (by kernel_rfl) rfl, fnP hg KX (by kernel_rfl) rfl, fnP hg KX (by kernel_rfl) rfl, trivial⟩

noncomputable def BiP (mg mb : Str → Option Value) (x : Str) (v : Value) : Prop := mg x = none ∧ mb x = some v
theorem biP {x : Str} {v : Value} (hg : h.Ns mainGlobals mg) (KX : (KK w.params).In h) (hb : ∀ x : Str, x ≠ "__name__" → mb x = bootBuiltins x) (h1 : nsIn (KK w.params) mainGlobals x = some none) (h2 : (x == ("__name__" : Str)) = false) (h3 : bootBuiltins x = some v) : BiP mg mb x v :=
  ⟨mg_none_of KX hg h1, (hb x (fun q => by rw [q] at h2; exact absurd h2 (by decide))).trans h3⟩
theorem bi_ok (hg : h.Ns mainGlobals mg) (KX : (KK w.params).In h) (hb : ∀ x : Str, x ≠ "__name__" → mb x = bootBuiltins x) : AllT (BiP mg mb) biTab :=
  ⟨biP (x := Str.ofString "len") hg KX hb (by kernel_rfl) (by kernel_rfl) (by boot_by_name), biP (x := Str.ofString "sum") hg KX hb (by kernel_rfl) (by kernel_rfl) (by boot_by_name), biP (x := Str.ofString "list") hg KX hb (by kernel_rfl) (by kernel_rfl) (by boot_by_name), biP (x := Str.ofString "tuple") hg KX hb (by kernel_rfl) (by kernel_rfl) (by boot_by_name), biP (x := Str.ofString "int") hg KX hb (by kernel_rfl) (by kernel_rfl) (by boot_by_name), biP (x := Str.ofString "range") hg KX hb (by kernel_rfl) (by kernel_rfl) (by boot_by_name), biP (x := Str.ofString "zip") hg KX hb (by kernel_rfl) (by kernel_rfl) (by boot_by_name), biP (x := Str.ofString "enumerate") hg KX hb (by kernel_rfl) (by kernel_rfl) (by boot_by_name), trivial⟩

theorem sysOk (hg : h.Ns mainGlobals mg) (KX : (KK w.params).In h) (hb : ∀ x : Str, x ≠ "__name__" → mb x = bootBuiltins x) : SysOk (sys w mg mb) where
  bi := fun x v e => AllT.look (bi_ok hg KX hb) e
  pg := by kernel_rfl
  hd := by kernel_rfl
  at_ := by
    intro i x e
    rcases attrName_cases e with rfl | rfl | rfl <;> kernel_rfl
  meth := by
    intro x k e
    have e := mem_lookup e
    simp only [sys, theGT] at e
    iterate 2 (rcases List.mem_cons.mp e with e | e; (cases e; exact ⟨by kernel_rfl, by kernel_rfl, fun i y hy => by rcases attrName_cases hy with rfl | rfl | rfl <;> decide +kernel⟩))
    cases e
  methf := by
    intro x k e
    have e := mem_lookup e
    simp only [sys, theGT] at e
    iterate 2 (rcases List.mem_cons.mp e with e | e; (cases e; exact ⟨_, _, rfl, rfl⟩))
    cases e
  fn := fun x k e => AllT.look (fn_ok hg KX) e

theorem rd_ints {P : Addr → Prop} : ∀ {vs : List Value} {is : List Int}, (vs.length = is.length ∧ ∀ (k : Nat) (v : Value) (i : Int), vs[k]? = some v → is[k]? = some i → ∃ t, v = .int i t) → RdAll P h vs (is.map .int)
  | [], [], _ => .nil
  | [], _ :: _, e => by cases e.1
  | _ :: _, [], e => by cases e.1
  | v :: vs, i :: is, ⟨e1, e2⟩ => by
    obtain ⟨t, rfl⟩ := e2 0 v i rfl rfl
    exact .cons (.int i t) (rd_ints ⟨Nat.succ.inj e1, fun k v i a b => e2 (k + 1) v i (by simpa using a) (by simpa using b)⟩)

noncomputable def DatP (mg : Str → Option Value) (h : Heap) (x : Str) (d : PyData) : Prop := ∃ v, mg x = some v ∧ Rd (fun _ => False) h v d
theorem datI {x : Str} {i : Int} {t : Tok} (hg : h.Ns mainGlobals mg) (KX : (KK w.params).In h) (h1 : nsIn (KK w.params) mainGlobals x = some (some (.int i t))) : DatP mg h x (.int i) := ⟨_, mg_of KX hg h1, .int _ _⟩
theorem rd_ints' {P : Addr → Prop} : ∀ {ps : List (Int × Tok)}, RdAll P h (ps.map fun p => .int p.1 p.2) (ps.map fun p => .int p.1)
  | [] => .nil
  | _ :: _ => .cons (.int _ _) rd_ints'
theorem datT {x : Str} {a : Addr} {ps : List (Int × Tok)} (hg : h.Ns mainGlobals mg) (KX : (KK w.params).In h) (h1 : nsIn (KK w.params) mainGlobals x = some (some (.ref a))) (h2 : (KK w.params).lookup a = some (tob (ps.map fun p => Value.int p.1 p.2).toArray 0)) (hz : ps.length ≤ 1000000) : DatP mg h x (.tuple (ps.map fun p => .int p.1)) :=
  ⟨_, mg_of KX hg h1, .tuple (KX _ _ h2) (by simpa using hz) (by simpa using rd_ints')⟩
theorem dat_ok (hg : h.Ns mainGlobals mg) (KX : (KK w.params).In h) : AllT (DatP mg h) theGT.dat :=
  ⟨datI (t := 236) hg KX (by kernel_rfl), datI (t := 238) hg KX (by kernel_rfl), datI (t := 240) hg KX (by kernel_rfl), datI (t := 242) hg KX (by kernel_rfl), datI (t := 243) hg KX (by kernel_rfl), datI (t := 246) hg KX (by kernel_rfl), datI (t := 247) hg KX (by kernel_rfl),
    datT (a := 169) (ps := [(97, 411), (769, 412), (8205, 413), (65039, 414), (8419, 415), (127995, 416), (127462, 417), (127487, 418), (128000, 419), (10084, 420), (19968, 421), (51, 422)]) hg KX (by kernel_rfl) rfl (by decide),
    datT (a := 170) (ps := [(769, 424), (8205, 425), (65039, 426), (8419, 427)]) hg KX (by kernel_rfl) rfl (by decide), datT (a := 171) (ps := [(127462, 429), (127487, 430)]) hg KX (by kernel_rfl) rfl (by decide), datT (a := 172) (ps := [(128000, 432), (10084, 433)]) hg KX (by kernel_rfl) rfl (by decide), trivial⟩
theorem base (hg : h.Ns mainGlobals mg) (hbn : h.Ns builtinsNs mb) (hl : h.NoLimit) (KX : (KK w.params).In h) (hb : ∀ x : Str, x ≠ "__name__" → mb x = bootBuiltins x) : Base (sys w mg mb) h where
  ok := sysOk hg KX hb
  g := hg
  b := hbn
  lim := hl
  kin := KX
  dat := fun x d e => AllT.look (dat_ok hg KX) e
end
end Mine
end

section
open PySem PyProof.Rows PySem.W
set_option Elab.async false
set_option linter.unusedVariables false
set_option linter.unusedSimpArgs false
set_option maxRecDepth 100000
namespace Mine
section
variable {w : World} {mg mb : Str → Option Value} {prog : Program}

theorem goodS (n : Nat) : GoodΓ (sys w mg mb) prog w n (Γs n) := good rfl entries n

noncomputable def dDraw : DefOf := ofName "_law_draw"
theorem at_draw : FnAt (sys w mg mb) 179 dDraw.ps dDraw.body (cxOf dDraw) := at_of rfl (by kernel_rfl) (by kernel_rfl) (bind2 (by kernel_rfl) (fun _ _ => rfl))

/-- the pen's last expression -/
noncomputable def meDraw : ME := .bin .mod (.ite (.cmp .lt (.var 2) (.len (.idx (.var 0) (.lit (.int 0))))) (.idx (.idx (.var 0) (.lit (.int 0))) (.var 2)) (.bin .add (.bin .mul (.lit (.int 29)) (.var 2)) (.lit (.int 11)))) (.var 1)

theorem draw_ev (Γ : Ctab) (cells : List Int) (at' many : Int) (h0 : 0 ≤ at') (h1 : at' ≤ 1000) (hm : 1 ≤ many) :
    ∃ r, evP Γ ([some (.dat (.list [.list (cells.map .int), .int (at' + 1)])), some (.dat (.int many)), some (.dat (.int at'))] ++ List.replicate 3 none) meDraw = some (.int r) ∧ 0 ≤ r ∧ r < many := by
  have hne : many ≠ 0 := by omega
  have key : ∀ x : Int, 0 ≤ x.fmod many ∧ x.fmod many < many := fun x => ⟨Int.fmod_nonneg_of_pos x (by omega), Int.fmod_lt_of_pos x (by omega)⟩
  by_cases hlt : at' < (cells.length : Int)
  · obtain ⟨c, hc⟩ : ∃ c, cells[at'.toNat]? = some c := ⟨_, List.getElem?_eq_getElem (show at'.toNat < cells.length by omega)⟩
    obtain ⟨hh, rfl⟩ := List.getElem?_eq_some_iff.mp hc
    refine ⟨_, ?_, key cells[at'.toNat]⟩
    simp [meDraw, evP_lit, evP_var, evP_bin, evP_neg, evP_not, evP_and, evP_or, evP_ite, evP_list, evP_tup, evP_cmp, evP_cmp2, evP_idx, evP_sl, evP_rev, evP_call, evP_meth, evP_attr, evP_len, evP_sum, evP_sumL, evP_toInt, evP_toList, evP_toTup, evP_comp, evP_rng, datAt, binD_1, binD_2, binD_3, binD_4, binD_5, binD_6, binD_7, binD_8, cmpD_1, cmpD_2, cmpD_3, cmpD_4, cmpD_5, cmpD_6, cmpD_7, cmpD_8, cmpD_9, idxD_1, idxD_2, pyGet, lenD_1, lenD_2, hlt, h0, hc, hne]
  · refine ⟨(29 * at' + 11).fmod many, ?_, key _⟩
    have hs : small at' = true := by simp [small]; omega
    have hs2 : small 29 = true := by decide
    simp [meDraw, evP_lit, evP_var, evP_bin, evP_neg, evP_not, evP_and, evP_or, evP_ite, evP_list, evP_tup, evP_cmp, evP_cmp2, evP_idx, evP_sl, evP_rev, evP_call, evP_meth, evP_attr, evP_len, evP_sum, evP_sumL, evP_toInt, evP_toList, evP_toTup, evP_comp, evP_rng, datAt, binD_1, binD_2, binD_3, binD_4, binD_5, binD_6, binD_7, binD_8, cmpD_1, cmpD_2, cmpD_3, cmpD_4, cmpD_5, cmpD_6, cmpD_7, cmpD_8, cmpD_9, idxD_1, idxD_2, pyGet, lenD_1, lenD_2, hlt, hne, hs, hs2]

noncomputable def valS : List Stmt → Nat → Expr := fun b i => match b[i]? with
  | some (.Assign _ e _) => e
  | some (.Return (some e) _) => e
  | some (.For _ e _ _ _) => e
  | some (.If e _ _ _) => e
  | _ => .Constant (.int 0) 0 ⟨0, 0, 0, 0⟩
noncomputable def bodyS : List Stmt → Nat → List Stmt := fun b i => match b[i]? with
  | some (.For _ _ b _ _) => b
  | some (.If _ b _ _) => b
  | _ => []
theorem draw_body : ∃ p1 p2 p3 p4 p5 p6 p7, dDraw.body = [.Assign [.Name (Str.ofString "at") p1] (valS dDraw.body 0) p2, .Assign [.Subscript (.Name (Str.ofString "pen") p3) (.Constant (.int 1) 0 p4) p5] (valS dDraw.body 1) p6, .Return (some (valS dDraw.body 2)) p7] :=
  ⟨_, _, _, _, _, _, _, rfl⟩
theorem draw_c0 : cE theGT 40 3 (cxOf dDraw) (valS dDraw.body 0) = some (.idx (.var 0) (.lit (.int 1))) := by kernel_rfl
theorem draw_c1 : cE theGT 40 3 (cxOf dDraw) (valS dDraw.body 1) = some (.bin .add (.var 2) (.lit (.int 1))) := by kernel_rfl
theorem draw_c2 : cE theGT 40 3 (cxOf dDraw) (valS dDraw.body 2) = some meDraw := by kernel_rfl
theorem draw_slots : (cxOf dDraw).slots = [some (Str.ofString "pen"), some (Str.ofString "many"), some (Str.ofString "at"), none, none, none] := by kernel_rfl
theorem draw_kinds : (cxOf dDraw).names.lookup (Str.ofString "pen") = some .local ∧ (cxOf dDraw).names.lookup (Str.ofString "many") = some .local ∧ (cxOf dDraw).names.lookup (Str.ofString "at") = some .local := by
  refine ⟨?_, ?_, ?_⟩ <;> kernel_rfl
theorem draw_sw0 (t : Option Expr) (l : Nat) (env : Env) : swapsWith (valS dDraw.body 0) t l env = pure false := by kernel_rfl
theorem draw_sw1 (t : Option Expr) (l : Nat) (env : Env) : swapsWith (valS dDraw.body 1) t l env = pure false := by kernel_rfl
theorem slot_local {cx : Cx} {env : Env} {h : Heap} {m : Str → Option Value} {x : Str} {v : Value} (he : EnvOk cx env) (hk : cx.names.lookup x = some .local) (hs : Slot env h m x v) : m x = some v := by
  rcases hs with ⟨_, h⟩ | ⟨h, _⟩
  · exact h
  · rw [kindOf_eq he, hk] at h; cases h

theorem draw_ctx {L : Nat} {A : Around} {env : Env} {s : Shared} {m : Str → Option Value} {pv mv av : Value} {pd md : PyData} {ad : Option PyData} {P : Addr → Prop} (he : EnvOk (cxOf dDraw) env) (hB : Base (sys w mg mb) s.heap) (R : Room L A)
    (hn : s.heap.Ns env.locals m) (h1 : m (Str.ofString "pen") = some pv) (h2 : m (Str.ofString "many") = some mv) (r1 : Rd P s.heap pv pd) (r2 : Rd P s.heap mv md) (h3 : ∀ d, ad = some d → m (Str.ofString "at") = some av ∧ Rd P s.heap av d) :
    Ctx0 (sys w mg mb) L (cxOf dDraw) env ([some (.dat pd), some (.dat md), ad.map V.dat] ++ List.replicate 3 none) P s A := by
  refine ⟨he, ⟨m, hn, fun k x X e1 e2 => ?_⟩, hB, R⟩
  rw [draw_slots] at e1
  obtain ⟨k1, k2, k3⟩ := draw_kinds
  match k, e1, e2 with
  | 0, e1, e2 => simp at e1; subst e1; simp [valAt] at e2; subst e2; exact ⟨pv, .inl ⟨(kindOf_eq he _).trans k1, h1⟩, r1⟩
  | 1, e1, e2 => simp at e1; subst e1; simp [valAt] at e2; subst e2; exact ⟨mv, .inl ⟨(kindOf_eq he _).trans k2, h2⟩, r2⟩
  | 2, e1, e2 =>
    simp at e1; subst e1
    cases ad with
    | none => simp [valAt] at e2
    | some d => simp [valAt] at e2; subst e2; obtain ⟨a, b⟩ := h3 d rfl; exact ⟨av, .inl ⟨(kindOf_eq he _).trans k3, a⟩, b⟩
  | k + 3, e1, e2 =>
    have : (k + 3 : Nat) < 6 := (List.getElem?_eq_some_iff.mp e1).1
    match k, e1 with
    | 0, e1 => simp at e1
    | 1, e1 => simp at e1
    | 2, e1 => simp at e1

theorem ints_any {P P' : Addr → Prop} {h h' : Heap} : ∀ {cells : List Int} {vs : List Value}, RdAll P h vs (cells.map .int) → RdAll P' h' vs (cells.map .int)
  | [], _, r => by cases r; exact .nil
  | c :: cells, _, r => by
    cases r with
    | cons r rs => cases r; exact .cons (.int _ _) (ints_any rs)

/-- one draw of the pen -/
theorem draw_ok {A : Around} {s sB : Shared} {D l : Addr} {vs : Array Value} {n nl : Nat} {t tm : Tok} {cells : List Int} {at' many : Int} {E : Value → Shared → Prop} {Q : Value → Shared → Prop} (R : Room 60 A) (hB : Base (sys w mg mb) sB.heap) (hle : Le sB.heap s.heap) (hD0 : sB.heap.get? D = none)
    (hD : s.heap.get? D = some (lob #[.ref l, .int at' t] n)) (hl : s.heap.get? l = some (lob vs nl)) (hlD : l ≠ D) (hz : vs.size ≤ 1000000) (hr : RdAll (fun _ => False) s.heap vs.toList (cells.map .int)) (h0 : 0 ≤ at') (h1 : at' ≤ 1000) (hm : 1 ≤ many)
    (hQ : ∀ r tr h' tk t' n', 0 ≤ r → r < many → (∀ b o, b ≠ D → s.heap.get? b = some o → h'.get? b = some o) → h'.get? D = some (lob #[.ref l, .int (at' + 1) t'] n') → Q (.int r tr) { s with heap := h', toks := tk }) :
    wpAny (model prog w) A (call (.ref 179) [.ref D, .int many tm]) Q E s := by
  have hBs := hB.keeps hle
  let P : Addr → Prop := fun a => a = D ∨ a = l
  have rP : ∀ (h : Heap) (k : Nat) (i : Int) (t' : Tok), (∀ b o, b ≠ D → s.heap.get? b = some o → h.get? b = some o) → h.get? D = some (lob #[.ref l, .int i t'] k) → Rd P h (.ref D) (.list [.list (cells.map .int), .int i]) := fun h k i t' hk e =>
    .list (.inl rfl) e (by show 2 ≤ _; omega) (.cons (.list (.inr rfl) (hk _ _ hlD hl) hz (ints_any hr)) (.cons (.int _ _) .nil))
  obtain ⟨p1, p2, p3, p4, p5, p6, p7, hbody⟩ := draw_body
  obtain ⟨k1, k2, k3⟩ := draw_kinds
  refine call_frame (S := sys w mg mb) (L := 59) (ow := 99) (j := 4) (P := P) (k := 179) (args := [.dat (.list [.list (cells.map .int), .int at']), .dat (.int many)]) at_draw (ndB_spec (by decide +kernel)) (slots_spec dDraw) (by decide +kernel) rfl R hBs
    (.cons (rP _ _ _ _ (fun b o _ e => e) hD) (.cons (.int _ _) .nil)) (by show 2 = _; decide +kernel) fun env s1 m I hsl => ?_
  rw [hbody]
  have snd := fun n => sound (S := sys w mg mb) (prog := prog) (w := w) (L := 59) (Γ := Γs 59) (goodS 59) n
  have mpen := slot_local I.e k1 (hsl 0 (Str.ofString "pen") _ (by kernel_rfl) rfl)
  have mmany := slot_local I.e k2 (hsl 1 (Str.ofString "many") _ (by kernel_rfl) rfl)
  have hko := kindOf_eq I.e
  have le1 := keeps_le I.k
  have hlt : env.locals ≠ D := fun q => by have := I.lf; rw [q, hD] at this; cases this
  have hll : env.locals ≠ l := fun q => by have := I.lf; rw [q, hl] at this; cases this
  have hloc : (env.scope.kind == .class || (env.scope.kind == .module && env.locals != env.globals)) = false := by rw [I.e.kind]; rfl
  have old : ∀ b o, s.heap.get? b = some o → b ≠ env.locals := fun b o e q => by have := I.lf; rw [← q, e] at this; cases this
  refine wpAny_execs_cons (wpAny_Assign_Name ((((snd 40).e _ _ _ _ draw_c0).e _ (.int at') env P s1 _ (by simp [evP_lit, evP_var, evP_bin, evP_neg, evP_not, evP_and, evP_or, evP_ite, evP_list, evP_tup, evP_cmp, evP_cmp2, evP_idx, evP_sl, evP_rev, evP_call, evP_meth, evP_attr, evP_len, evP_sum, evP_sumL, evP_toInt, evP_toList, evP_toTup, evP_comp, evP_rng, datAt, idxD_1, idxD_2, pyGet]) (draw_ctx (ad := none) (av := .none) I.e (hBs.keeps le1) I.r I.ns mpen mmany (rP _ _ _ _ (fun b o _ e => le1 _ _ e) (le1 _ _ hD)) (.int _ _) (fun d h => by cases h))).bind fun v s2 k2' r2 => ?_) (draw_sw0 _ _ _))
  cases r2 with
  | int _ t2 =>
  have k12 := keeps_trans I.k k2'
  have le2 := keeps_le k12
  refine wpAny_storeName_local ((hko _).trans k3) (I.ns.keeps (keeps_le k2')) (fun h3 hn3 hs3 => ?_) hloc
  have le3 : Le s.heap h3 := fun b o e => hs3.extBut b o (old b o e) (le2 _ _ e)
  have mp3 : (fun x => if x = Str.ofString "at" then some (Value.int at' t2) else m x) (Str.ofString "pen") = some (.ref D) := by
    show (if Str.ofString "pen" = Str.ofString "at" then some (Value.int at' t2) else m (Str.ofString "pen")) = _
    rw [if_neg (by decide +kernel)]; exact mpen
  have mm3 : (fun x => if x = Str.ofString "at" then some (Value.int at' t2) else m x) (Str.ofString "many") = some (.int many tm) := by
    show (if Str.ofString "many" = Str.ofString "at" then some (Value.int at' t2) else m (Str.ofString "many")) = _
    rw [if_neg (by decide +kernel)]; exact mmany
  have ma3 : (fun x => if x = Str.ofString "at" then some (Value.int at' t2) else m x) (Str.ofString "at") = some (.int at' t2) := if_pos rfl
  generalize (fun x => if x = Str.ofString "at" then some (Value.int at' t2) else m x) = m3 at *
  have c3 := draw_ctx (P := P) (ad := some (.int at')) (L := 59) (A := A.deeper env) (s := { s2 with heap := h3, toks := s2.toks + 1 }) I.e (hBs.keeps le3) I.r hn3 mp3 mm3 (rP _ _ _ _ (fun b o _ e => le3 _ _ e) (le3 _ _ hD)) (.int _ _) (fun d h => by cases h; exact ⟨ma3, .int _ _⟩)
  refine wpAny_execs_cons (wpAny_Assign_Subscript ((((snd 40).e _ _ _ _ draw_c1).e _ (.int (at' + 1)) env P _ _ (by simp [evP_lit, evP_var, evP_bin, evP_neg, evP_not, evP_and, evP_or, evP_ite, evP_list, evP_tup, evP_cmp, evP_cmp2, evP_idx, evP_sl, evP_rev, evP_call, evP_meth, evP_attr, evP_len, evP_sum, evP_sumL, evP_toInt, evP_toList, evP_toTup, evP_comp, evP_rng, datAt, binD_1, binD_2, binD_3, binD_4, binD_5, binD_6, binD_7, binD_8]) c3).bind fun v s4 k4 r4 => ?_) (draw_sw1 _ _ _))
  cases r4 with
  | int _ t4 =>
  have le4 : Le h3 s4.heap := keeps_le k4
  refine wpAny_Name (wpAny_loadName_local I.e.kind ((hko _).trans k1) (hn3.keeps le4) mp3 ?_) (by decide +kernel)
  refine wpAny_Constant_int ?_
  refine setItem_pos (n := n) (items := #[.ref l, .int at' t]) (s := { s4 with toks := s4.toks + 1 }) (le4 _ _ (le3 _ _ hD)) (by decide) (by decide) (by show (1 : Int) < 2; decide) fun h5 hD5 hs5 => ?_
  have hD5' : h5.get? D = some (lob #[.ref l, .int (at' + 1) t4] n) := hD5
  have k5 : ∀ b o, b ≠ D → s.heap.get? b = some o → h5.get? b = some o := fun b o hb e => hs5.extBut b o hb (le4 _ _ (le3 _ _ e))
  have hn5 := (hn3.keeps le4).sameBut hs5 hlt
  have hB5 : Base (sys w mg mb) h5 := hB.keeps fun b o e => k5 b o (fun q => by rw [q, hD0] at e; cases e) (hle _ _ e)
  obtain ⟨r, hr1, hr2, hr3⟩ := draw_ev (Γs 59) cells at' many h0 h1 hm
  have c5 := draw_ctx (P := P) (ad := some (.int at')) (L := 59) (A := A.deeper env) (s := { s4 with heap := h5, toks := s4.toks + 1 }) I.e hB5 I.r hn5 mp3 mm3 (rP _ _ _ _ k5 hD5') (.int _ _) (fun d h => by cases h; exact ⟨ma3, .int _ _⟩)
  refine wpAny_execs_cons (wpAny_Return_some ((((snd 40).e _ _ _ _ draw_c2).e _ _ env P _ _ hr1 c5).bind fun v s6 k6 r6 => ?_))
  cases r6 with
  | int _ t6 =>
  obtain ⟨h6, t7, rfl, le6⟩ := k6
  obtain ⟨h4', t4', e4, _⟩ := k4
  obtain ⟨h2', t2', e2, _⟩ := k12
  have := hQ r t6 h6 t7 t4 n hr2 hr3 (fun b o hb e => le6 _ _ (k5 b o hb e)) (le6 _ _ hD5')
  rw [e4, e2]
  exact this
end
end Mine
end

section
open PySem PyProof.Rows PySem.W
set_option Elab.async false
set_option linter.unusedVariables false
set_option linter.unusedSimpArgs false
set_option maxRecDepth 100000
namespace Mine

noncomputable def sorts : List Int := [97, 769, 8205, 65039, 8419, 127995, 127462, 127487, 128000, 10084, 19968, 51]
noncomputable def mk (c : Int) : Bool := c == 769 || c == 8205 || c == 65039 || c == 8419
noncomputable def reg (c : Int) : Bool := c == 127462 || c == 127487
noncomputable def pic (c : Int) : Bool := c == 128000 || c == 10084
noncomputable def wideOf (way : Nat) : List Int := if way = 0 then [19968, 128000] else if way = 1 then [] else [97, 19968, 127462, 127487, 127995]
noncomputable def rangesOf (way : Nat) : List (Int × Int) := if way = 0 then [(19968, 19968), (128000, 128015)] else if way = 1 then [] else [(97, 97), (19968, 19983), (127462, 127487), (127995, 127999)]
noncomputable def rgD (l : List (Int × Int)) : PyData := .list (l.map fun p => .tuple [.int p.1, .int p.2])
noncomputable def marksD : PyData := rgD [(768, 879), (8205, 8205), (8419, 8419), (65039, 65039)]
noncomputable def joinD : PyData := rgD [(10084, 10084), (128000, 128015)]
noncomputable def tabOf (way : Nat) : V := .tab (rgD (rangesOf way)) marksD joinD
noncomputable def wOf (way : Nat) (c : Int) : Int := if mk c then 0 else if (wideOf way).contains c then 2 else 1

theorem forall_sorts {p : Int → Prop} (h : p 97 ∧ p 769 ∧ p 8205 ∧ p 65039 ∧ p 8419 ∧ p 127995 ∧ p 127462 ∧ p 127487 ∧ p 128000 ∧ p 10084 ∧ p 19968 ∧ p 51) : ∀ c ∈ sorts, p c := by
  intro c hc
  obtain ⟨h1, h2, h3, h4, h5, h6, h7, h8, h9, h10, h11, h12⟩ := h
  simp only [sorts, List.mem_cons, List.not_mem_nil, or_false] at hc
  rcases hc with rfl | rfl | rfl | rfl | rfl | rfl | rfl | rfl | rfl | rfl | rfl | rfl <;> assumption

theorem ways {p : Nat → Prop} (h0 : p 0) (h1 : p 1) (h2 : p 2) : ∀ w, w < 3 → p w := by
  intro w hw
  match w, hw with
  | 0, _ => exact h0
  | 1, _ => exact h1
  | 2, _ => exact h2
theorem g90 {way : Nat} {c : Int} (hw : way < 3) (hc : c ∈ sorts) (n : Nat) : Γs (n + 2) 90 [tabOf way, .dat (.int c)] = some (.int (wOf way c)) := by
  revert c
  refine ways (p := fun way => ∀ {c : Int}, c ∈ sorts → Γs (n + 2) 90 [tabOf way, .dat (.int c)] = some (.int (wOf way c))) ?_ ?_ ?_ way hw
  all_goals
    intro c hc
    refine forall_sorts (p := fun c => Γs (n + 2) 90 [tabOf _, .dat (.int c)] = some (.int (wOf _ c))) ?_ c hc
    refine ⟨?_, ?_, ?_, ?_, ?_, ?_, ?_, ?_, ?_, ?_, ?_, ?_⟩ <;> kernel_rfl
theorem g97 {way : Nat} {c : Int} (hc : c ∈ sorts) (n : Nat) : Γs (n + 2) 97 [tabOf way, .dat (.int c)] = some (.bool (pic c)) := by
  refine forall_sorts (p := fun c => Γs (n + 2) 97 [tabOf way, .dat (.int c)] = some (.bool (pic c))) ?_ c hc
  refine ⟨?_, ?_, ?_, ?_, ?_, ?_, ?_, ?_, ?_, ?_, ?_, ?_⟩ <;> kernel_rfl
theorem g111 {c : Int} (hc : c ∈ sorts) (n : Nat) : Γs (n + 1) 111 [.dat (.int c)] = some (.bool (reg c)) := by
  refine forall_sorts (p := fun c => Γs (n + 1) 111 [.dat (.int c)] = some (.bool (reg c))) ?_ c hc
  refine ⟨?_, ?_, ?_, ?_, ?_, ?_, ?_, ?_, ?_, ?_, ?_, ?_⟩ <;> kernel_rfl
theorem g118 {c : Int} (hc : c ∈ sorts) (n : Nat) : Γs (n + 1) 118 [.dat (.int c)] = some (.bool (c == 127995)) := by
  refine forall_sorts (p := fun c => Γs (n + 1) 118 [.dat (.int c)] = some (.bool (c == 127995))) ?_ c hc
  refine ⟨?_, ?_, ?_, ?_, ?_, ?_, ?_, ?_, ?_, ?_, ?_, ?_⟩ <;> kernel_rfl
theorem g69 {way : Nat} (hw : way < 3) (n : Nat) : Γs (n + 1) 69 [.dat (rgD (rangesOf way))] = some .none := by
  refine ways (p := fun way => Γs (n + 1) 69 [.dat (rgD (rangesOf way))] = some .none) ?_ ?_ ?_ way hw <;> kernel_rfl
theorem g69m (n : Nat) : Γs (n + 1) 69 [.dat marksD] = some .none := by kernel_rfl
theorem g69j (n : Nat) : Γs (n + 1) 69 [.dat joinD] = some .none := by kernel_rfl
theorem g186 {way : Nat} (hw : way < 3) (n : Nat) : Γs (n + 1) 186 [.dat (.int (way : Int))] = some (.tuple [.tuple ((wideOf way).map .int), rgD (rangesOf way)]) := by
  refine ways (p := fun way => Γs (n + 1) 186 [.dat (.int (way : Int))] = some (.tuple [.tuple ((wideOf way).map .int), rgD (rangesOf way)])) ?_ ?_ ?_ way hw <;> kernel_rfl
end Mine
end

section
open PySem PyProof.Rows PySem.W
set_option Elab.async false
set_option linter.unusedVariables false
set_option linter.unusedSimpArgs false
set_option maxRecDepth 100000
namespace Mine

theorem Γs_ret {n k : Nat} {args : List V} {ms : List MS} {ow j ar : Nat} {d : PyData} (he : entry k = some (ms, ow, j, ar)) (hl : args.length = ar) (hr : rL (Γs n) ow ms (args.map some ++ List.replicate j none) = some (.ret d)) : Γs (n + 1) k args = some d := by
  unfold Γs
  rw [he]
  simp only [hl, if_true, hr]

noncomputable abbrev D (l : List Int) : List PyData := l.map .int
noncomputable def lst (l : List Int) : Int := l.getLast?.getD 0
noncomputable def fst (l : List Int) : Int := l.head?.getD 0
noncomputable def bareL (cl : List Int) : Int := if cl.length > 1 && lst cl == 65039 then lst cl.dropLast else lst cl
noncomputable def joinsL (cl : List Int) (c : Int) : Bool :=
  if mk c then true else if reg c then reg (lst cl) && (cl.filter reg).length == 1 else if c == 127995 then pic (bareL cl) else lst cl == 8205 && pic c && pic (fst cl)

theorem snoc_of {α : Type} {l : List α} (h : l ≠ []) : ∃ a b, l = a ++ [b] := ⟨_, _, (List.dropLast_concat_getLast h).symm⟩
theorem get_last {l : List Int} (h : l ≠ []) : pyGet (D l) (-1) = some (.int (lst l)) := by
  obtain ⟨a, b, rfl⟩ := snoc_of h
  have e : (-1 + ((a.length : Int) + 1)).toNat = a.length := by omega
  simp [pyGet, lst, e]
  omega
theorem get_last2 {l : List Int} (h : 1 < l.length) : pyGet (D l) (-2) = some (.int (lst l.dropLast)) := by
  obtain ⟨a, b, rfl⟩ := snoc_of (l := l) (by intro q; subst q; simp at h)
  obtain ⟨a, c, rfl⟩ := snoc_of (l := a) (by intro q; subst q; simp at h)
  have e : (-2 + ((a.length : Int) + 2)).toNat = a.length := by omega
  simp [pyGet, lst, e]
  omega
theorem get_fst {l : List Int} (h : l ≠ []) : pyGet (D l) 0 = some (.int (fst l)) := by
  cases l with
  | nil => exact absurd rfl h
  | cons a l => simp [pyGet, fst]
theorem lst_mem {l : List Int} (h : l ≠ []) : lst l ∈ l := by
  obtain ⟨a, b, rfl⟩ := snoc_of h
  simp [lst]
theorem fst_mem {l : List Int} (h : l ≠ []) : fst l ∈ l := by
  cases l with
  | nil => exact absurd rfl h
  | cons a l => simp [fst]
theorem lst2_mem {l : List Int} (h : 1 < l.length) : lst l.dropLast ∈ l :=
  List.dropLast_subset _ (lst_mem (by intro q; have := congrArg List.length q; simp at this; omega))

theorem compGo_filter {f : PyData → Option Bool} {g : PyData → Option PyData} {p : Int → Bool} : ∀ {l : List Int}, (∀ x ∈ l, f (.int x) = some (p x)) → (∀ x, g (.int x) = some (.int x)) → compGo f g (D l) = some (D (l.filter p))
  | [], _, _ => rfl
  | x :: l, h1, h2 => by
    have ih := compGo_filter (l := l) (fun x hx => h1 x (List.mem_cons_of_mem _ hx)) h2
    simp only [List.map_cons, compGo, h1 x (List.mem_cons_self ..)]
    cases hp : p x
    · simp [ih, hp]
    · simp [ih, h2, hp]
theorem compGo_map {α : Type} {f : PyData → Option Bool} {g : PyData → Option PyData} {e : α → PyData} {r : α → PyData} : ∀ {l : List α}, (∀ x ∈ l, f (e x) = some true) → (∀ x ∈ l, g (e x) = some (r x)) → compGo f g (l.map e) = some (l.map r)
  | [], _, _ => rfl
  | x :: l, h1, h2 => by
    have ih := compGo_map (l := l) (fun x hx => h1 x (List.mem_cons_of_mem _ hx)) (fun x hx => h2 x (List.mem_cons_of_mem _ hx))
    simp only [List.map_cons, compGo, h1 x (List.mem_cons_self ..), h2 x (List.mem_cons_self ..), ih]
    rfl

theorem g125 {cl : List Int} (h : cl ≠ []) (n : Nat) : Γs (n + 1) 125 [.dat (.tuple (D cl))] = some (.int (bareL cl)) := by
  refine Γs_ret (ms := ms_bare) (ow := 99) (j := 3) (ar := 1) (by kernel_rfl) rfl ?_
  by_cases hl : (1 : Int) < cl.length
  · have hl' : 1 < cl.length := by omega
    by_cases hp : lst cl = 65039
    · simp [ms_bare, rL_nil, rL_cons_, rS_asg, rS_unp, rS_own, rS_own2, rS_aug, rS_ret, rS_ite, rS_for1, rS_whl, rS_push, rS_ext, rS_err, rS_drop, rS_forE, rS_forZ, rS_setL, evP_lit, evP_var, evP_bin, evP_neg, evP_not, evP_and, evP_or, evP_ite, evP_list, evP_tup, evP_cmp, evP_cmp2, evP_idx, evP_sl, evP_rev, evP_call, evP_meth, evP_attr, evP_len, evP_sum, evP_sumL, evP_toInt, evP_toList, evP_toTup, evP_comp, evP_rng, evAnd_nil, evAnd_cons_, datAt, idxD_1, idxD_2, lenD_1, lenD_2, cmpD_1, cmpD_2, cmpD_3, cmpD_4, cmpD_5, cmpD_6, cmpD_7, cmpD_8, cmpD_9, hl, hl', get_last h, get_last2 hl', PyData.depth, PyData.eqv, hp, bareL]
    · have hp' : (lst cl == 65039) = false := by simpa using hp
      simp [ms_bare, rL_nil, rL_cons_, rS_asg, rS_unp, rS_own, rS_own2, rS_aug, rS_ret, rS_ite, rS_for1, rS_whl, rS_push, rS_ext, rS_err, rS_drop, rS_forE, rS_forZ, rS_setL, evP_lit, evP_var, evP_bin, evP_neg, evP_not, evP_and, evP_or, evP_ite, evP_list, evP_tup, evP_cmp, evP_cmp2, evP_idx, evP_sl, evP_rev, evP_call, evP_meth, evP_attr, evP_len, evP_sum, evP_sumL, evP_toInt, evP_toList, evP_toTup, evP_comp, evP_rng, evAnd_nil, evAnd_cons_, datAt, idxD_1, idxD_2, lenD_1, lenD_2, cmpD_1, cmpD_2, cmpD_3, cmpD_4, cmpD_5, cmpD_6, cmpD_7, cmpD_8, cmpD_9, hl, hl', get_last h, get_last2 hl', PyData.depth, PyData.eqv, hp, hp', bareL]
  · have hl' : ¬ 1 < cl.length := by omega
    simp [ms_bare, rL_nil, rL_cons_, rS_asg, rS_unp, rS_own, rS_own2, rS_aug, rS_ret, rS_ite, rS_for1, rS_whl, rS_push, rS_ext, rS_err, rS_drop, rS_forE, rS_forZ, rS_setL, evP_lit, evP_var, evP_bin, evP_neg, evP_not, evP_and, evP_or, evP_ite, evP_list, evP_tup, evP_cmp, evP_cmp2, evP_idx, evP_sl, evP_rev, evP_call, evP_meth, evP_attr, evP_len, evP_sum, evP_sumL, evP_toInt, evP_toList, evP_toTup, evP_comp, evP_rng, evAnd_nil, evAnd_cons_, datAt, idxD_1, idxD_2, lenD_1, lenD_2, cmpD_1, cmpD_2, cmpD_3, cmpD_4, cmpD_5, cmpD_6, cmpD_7, cmpD_8, cmpD_9, hl, hl', get_last h, PyData.depth, PyData.eqv, bareL]

theorem rL_if_t {Γ : Ctab} {ow : Nat} {ρ : Env0} {t e : ME} {b r : List MS} {d : PyData} {c : Bool} (h : evP Γ ρ t = some (.bool c)) (hc : c = true) (h2 : evP Γ ρ e = some d) : rL Γ ow (.ite t [.ret e] b :: r) ρ = some (.ret d) := by
  subst hc; simp [rL_nil, rL_cons_, rS_asg, rS_unp, rS_own, rS_own2, rS_aug, rS_ret, rS_ite, rS_for1, rS_whl, rS_push, rS_ext, rS_err, rS_drop, rS_forE, rS_forZ, rS_setL, h, h2]
theorem rL_if_f {Γ : Ctab} {ow : Nat} {ρ : Env0} {t : ME} {a r : List MS} {c : Bool} (h : evP Γ ρ t = some (.bool c)) (hc : c = false) : rL Γ ow (.ite t a [] :: r) ρ = rL Γ ow r ρ := by
  subst hc; simp [rL_nil, rL_cons_, rS_asg, rS_unp, rS_own, rS_own2, rS_aug, rS_ret, rS_ite, rS_for1, rS_whl, rS_push, rS_ext, rS_err, rS_drop, rS_forE, rS_forZ, rS_setL, h]
theorem rL_ret {Γ : Ctab} {ow : Nat} {ρ : Env0} {e : ME} {r : List MS} {d : PyData} (h2 : evP Γ ρ e = some d) : rL Γ ow (.ret e :: r) ρ = some (.ret d) := by
  simp [rL_nil, rL_cons_, rS_asg, rS_unp, rS_own, rS_own2, rS_aug, rS_ret, rS_ite, rS_for1, rS_whl, rS_push, rS_ext, rS_err, rS_drop, rS_forE, rS_forZ, rS_setL, h2]
theorem rL_asg {Γ : Ctab} {ow k : Nat} {ρ : Env0} {e : ME} {r : List MS} {d : PyData} (hk : k ≠ ow) (h2 : evP Γ ρ e = some d) : rL Γ ow (.asg k e :: r) ρ = rL Γ ow r (ρ.set k (some (.dat d))) := by
  simp [rL_nil, rL_cons_, rS_asg, rS_unp, rS_own, rS_own2, rS_aug, rS_ret, rS_ite, rS_for1, rS_whl, rS_push, rS_ext, rS_err, rS_drop, rS_forE, rS_forZ, rS_setL, h2, hk]
theorem rL_nxt {Γ : Ctab} {ow : Nat} {ρ ρ' : Env0} {m : MS} {r : List MS} (h : rS Γ ow m ρ = some (.nxt ρ')) : rL Γ ow (m :: r) ρ = rL Γ ow r ρ' := by
  simp [rL_nil, rL_cons_, h]
theorem rL_out {Γ : Ctab} {ow : Nat} {ρ : Env0} {m : MS} {r : List MS} {d : PyData} (h : rS Γ ow m ρ = some (.ret d)) : rL Γ ow (m :: r) ρ = some (.ret d) := by
  simp [rL_nil, rL_cons_, h]
theorem ev_and2 {Γ : Ctab} {ρ : Env0} {a b : ME} {x y : Bool} (h1 : evP Γ ρ a = some (.bool x)) (h2 : x = true → evP Γ ρ b = some (.bool y)) : evP Γ ρ (.and [a, b]) = some (.bool (x && y)) := by
  cases x
  · simp [evP_lit, evP_var, evP_bin, evP_neg, evP_not, evP_and, evP_or, evP_ite, evP_list, evP_tup, evP_cmp, evP_cmp2, evP_idx, evP_sl, evP_rev, evP_call, evP_meth, evP_attr, evP_len, evP_sum, evP_sumL, evP_toInt, evP_toList, evP_toTup, evP_comp, evP_rng, evAnd_nil, evAnd_cons_, h1]
  · have h2 := h2 rfl
    cases y <;> simp [evP_lit, evP_var, evP_bin, evP_neg, evP_not, evP_and, evP_or, evP_ite, evP_list, evP_tup, evP_cmp, evP_cmp2, evP_idx, evP_sl, evP_rev, evP_call, evP_meth, evP_attr, evP_len, evP_sum, evP_sumL, evP_toInt, evP_toList, evP_toTup, evP_comp, evP_rng, evAnd_nil, evAnd_cons_, h1, h2]
theorem ev_and3 {Γ : Ctab} {ρ : Env0} {a b c : ME} {x y z : Bool} (h1 : evP Γ ρ a = some (.bool x)) (h2 : evP Γ ρ b = some (.bool y)) (h3 : evP Γ ρ c = some (.bool z)) : evP Γ ρ (.and [a, b, c]) = some (.bool (x && (y && z))) := by
  cases x <;> cases y <;> cases z <;> simp [evP_lit, evP_var, evP_bin, evP_neg, evP_not, evP_and, evP_or, evP_ite, evP_list, evP_tup, evP_cmp, evP_cmp2, evP_idx, evP_sl, evP_rev, evP_call, evP_meth, evP_attr, evP_len, evP_sum, evP_sumL, evP_toInt, evP_toList, evP_toTup, evP_comp, evP_rng, evAnd_nil, evAnd_cons_, h1, h2, h3]
theorem ev_or2 {Γ : Ctab} {ρ : Env0} {a b : ME} {x y : Bool} (h1 : evP Γ ρ a = some (.bool x)) (h2 : x = false → evP Γ ρ b = some (.bool y)) : evP Γ ρ (.or [a, b]) = some (.bool (x || y)) := by
  cases x
  · have h2 := h2 rfl
    cases y <;> simp [evP_lit, evP_var, evP_bin, evP_neg, evP_not, evP_and, evP_or, evP_ite, evP_list, evP_tup, evP_cmp, evP_cmp2, evP_idx, evP_sl, evP_rev, evP_call, evP_meth, evP_attr, evP_len, evP_sum, evP_sumL, evP_toInt, evP_toList, evP_toTup, evP_comp, evP_rng, evOr_nil, evOr_cons_, h1, h2]
  · simp [evP_lit, evP_var, evP_bin, evP_neg, evP_not, evP_and, evP_or, evP_ite, evP_list, evP_tup, evP_cmp, evP_cmp2, evP_idx, evP_sl, evP_rev, evP_call, evP_meth, evP_attr, evP_len, evP_sum, evP_sumL, evP_toInt, evP_toList, evP_toTup, evP_comp, evP_rng, evOr_nil, evOr_cons_, h1]
theorem ev_ite {Γ : Ctab} {ρ : Env0} {t a b : ME} {x : Bool} {d1 d2 : PyData} (h : evP Γ ρ t = some (.bool x)) (h1 : x = true → evP Γ ρ a = some d1) (h2 : x = false → evP Γ ρ b = some d2) : evP Γ ρ (.ite t a b) = some (if x then d1 else d2) := by
  cases x
  · simp [evP_lit, evP_var, evP_bin, evP_neg, evP_not, evP_and, evP_or, evP_ite, evP_list, evP_tup, evP_cmp, evP_cmp2, evP_idx, evP_sl, evP_rev, evP_call, evP_meth, evP_attr, evP_len, evP_sum, evP_sumL, evP_toInt, evP_toList, evP_toTup, evP_comp, evP_rng, h, h2 rfl]
  · simp [evP_lit, evP_var, evP_bin, evP_neg, evP_not, evP_and, evP_or, evP_ite, evP_list, evP_tup, evP_cmp, evP_cmp2, evP_idx, evP_sl, evP_rev, evP_call, evP_meth, evP_attr, evP_len, evP_sum, evP_sumL, evP_toInt, evP_toList, evP_toTup, evP_comp, evP_rng, h, h1 rfl]
theorem ev_call {Γ : Ctab} {ρ : Env0} {f : Nat} {as : List ME} {vs : List V} (h : evAs Γ ρ as = some vs) : evP Γ ρ (.call f as) = Γ f vs := by
  simp [evP_lit, evP_var, evP_bin, evP_neg, evP_not, evP_and, evP_or, evP_ite, evP_list, evP_tup, evP_cmp, evP_cmp2, evP_idx, evP_sl, evP_rev, evP_call, evP_meth, evP_attr, evP_len, evP_sum, evP_sumL, evP_toInt, evP_toList, evP_toTup, evP_comp, evP_rng, h]
theorem ev_comp {Γ : Ctab} {ρ : Env0} {k : Nat} {elt src : ME} {test : List ME} {x : PyData} {xs ys : List PyData} (h1 : evP Γ ρ src = some x) (h2 : items x = some xs) (h3 : compGo (fun d => evAnd Γ (ρ.set k (some (.dat d))) test) (fun d => evP Γ (ρ.set k (some (.dat d))) elt) xs = some ys) : evP Γ ρ (.comp k elt src test) = some (.list ys) := by
  simp [evP_lit, evP_var, evP_bin, evP_neg, evP_not, evP_and, evP_or, evP_ite, evP_list, evP_tup, evP_cmp, evP_cmp2, evP_idx, evP_sl, evP_rev, evP_call, evP_meth, evP_attr, evP_len, evP_sum, evP_sumL, evP_toInt, evP_toList, evP_toTup, evP_comp, evP_rng, h1, h2, h3]

theorem ev_cmp {Γ : Ctab} {ρ : Env0} {op : CO} {a b : ME} {x y : PyData} {r : Bool} (h1 : evP Γ ρ a = some x) (h2 : evP Γ ρ b = some y) (h3 : cmpD op x y = some r) : evP Γ ρ (.cmp op a b) = some (.bool r) := by
  simp [evP_lit, evP_var, evP_bin, evP_neg, evP_not, evP_and, evP_or, evP_ite, evP_list, evP_tup, evP_cmp, evP_cmp2, evP_idx, evP_sl, evP_rev, evP_call, evP_meth, evP_attr, evP_len, evP_sum, evP_sumL, evP_toInt, evP_toList, evP_toTup, evP_comp, evP_rng, h1, h2, h3]
theorem cmp_eqi (a b : Int) : cmpD .eq (.int a) (.int b) = some (a == b) := by simp [cmpD_1, cmpD_2, cmpD_3, cmpD_4, cmpD_5, cmpD_6, cmpD_7, cmpD_8, cmpD_9, PyData.depth, PyData.eqv]
theorem cmp_nei (a b : Int) : cmpD .ne (.int a) (.int b) = some (a != b) := by simp [cmpD_1, cmpD_2, cmpD_3, cmpD_4, cmpD_5, cmpD_6, cmpD_7, cmpD_8, cmpD_9, PyData.depth, PyData.eqv, bne]
theorem ev_len {Γ : Ctab} {ρ : Env0} {a : ME} {xs : List PyData} (h1 : evP Γ ρ a = some (.list xs) ∨ evP Γ ρ a = some (.tuple xs)) : evP Γ ρ (.len a) = some (.int xs.length) := by
  rcases h1 with h1 | h1 <;> simp [evP_lit, evP_var, evP_bin, evP_neg, evP_not, evP_and, evP_or, evP_ite, evP_list, evP_tup, evP_cmp, evP_cmp2, evP_idx, evP_sl, evP_rev, evP_call, evP_meth, evP_attr, evP_len, evP_sum, evP_sumL, evP_toInt, evP_toList, evP_toTup, evP_comp, evP_rng, h1, lenD_1, lenD_2]

theorem wOf_zero {way : Nat} {c : Int} : (wOf way c = 0) ↔ mk c = true := by
  unfold wOf
  cases mk c <;> simp
  split <;> simp
theorem wOf_z {way : Nat} {c : Int} : (wOf way c == 0) = mk c := by
  have := @wOf_zero way c
  cases hm : mk c <;> simp [hm] at this ⊢ <;> exact this

theorem g130 {way : Nat} {cl : List Int} {c : Int} (hw : way < 3) (h : cl ≠ []) (hs : ∀ x ∈ cl, x ∈ sorts) (hc : c ∈ sorts) (n : Nat) : Γs (n + 3) 130 [.dat (.tuple (D cl)), .dat (.int c), tabOf way] = some (.bool (joinsL cl c)) := by
  refine Γs_ret (ms := ms_joins) (ow := 99) (j := 3) (ar := 3) (by kernel_rfl) rfl ?_
  have e1 := g90 hw hc n
  have e2 := g111 hc (n + 1)
  have e3 := g111 (hs _ (lst_mem h)) (n + 1)
  have e4 := g118 hc (n + 1)
  have e5 := g125 h (n + 1)
  have e6 := g97 (way := way) hc n
  have e7 := g97 (way := way) (hs _ (fst_mem h)) n
  have hb : bareL cl ∈ sorts := by
    unfold bareL
    split
    · rename_i hh; exact hs _ (lst2_mem (by simp at hh; exact hh.1))
    · exact hs _ (lst_mem h)
  have e8 := g97 (way := way) hb n
  unfold tabOf at *
  have hlen : (cl.length == 0) = false := by
    have := List.length_pos_iff.mpr h
    simp; exact h
  show rL _ 99 ms_joins [some (.dat (.tuple (D cl))), some (.dat (.int c)), some (.tab _ _ _), none, none, none] = _
  generalize hρ : ([some (.dat (.tuple (D cl))), some (.dat (.int c)), some (.tab (rgD (rangesOf way)) marksD joinD), none, none, none] : Env0) = ρ
  have v1 : evP (Γs (n + 2)) ρ (.var 1) = some (.int c) := by subst hρ; rfl
  have a1 : evAs (Γs (n + 2)) ρ [.var 1] = some [.dat (.int c)] := by subst hρ; rfl
  have vl : evP (Γs (n + 2)) ρ (.idx (.var 0) (.neg (.lit (.int 1)))) = some (.int (lst cl)) := by subst hρ; simp [evP_lit, evP_var, evP_bin, evP_neg, evP_not, evP_and, evP_or, evP_ite, evP_list, evP_tup, evP_cmp, evP_cmp2, evP_idx, evP_sl, evP_rev, evP_call, evP_meth, evP_attr, evP_len, evP_sum, evP_sumL, evP_toInt, evP_toList, evP_toTup, evP_comp, evP_rng, datAt, idxD_1, idxD_2, get_last h]
  have vf : evP (Γs (n + 2)) ρ (.idx (.var 0) (.lit (.int 0))) = some (.int (fst cl)) := by subst hρ; simp [evP_lit, evP_var, evP_bin, evP_neg, evP_not, evP_and, evP_or, evP_ite, evP_list, evP_tup, evP_cmp, evP_cmp2, evP_idx, evP_sl, evP_rev, evP_call, evP_meth, evP_attr, evP_len, evP_sum, evP_sumL, evP_toInt, evP_toList, evP_toTup, evP_comp, evP_rng, datAt, idxD_1, idxD_2, get_fst h]
  have m90 : evP (Γs (n + 2)) ρ (.meth 90 2 [.var 1]) = some (.int (wOf way c)) := by subst hρ; simp [evP_lit, evP_var, evP_bin, evP_neg, evP_not, evP_and, evP_or, evP_ite, evP_list, evP_tup, evP_cmp, evP_cmp2, evP_idx, evP_sl, evP_rev, evP_call, evP_meth, evP_attr, evP_len, evP_sum, evP_sumL, evP_toInt, evP_toList, evP_toTup, evP_comp, evP_rng, valAt, evAs_nil, evAs_cons_, varOf_lit, varOf_var, varOf_bin, varOf_neg, varOf_not, varOf_and, varOf_or, varOf_ite, varOf_list, varOf_tup, varOf_cmp, varOf_cmp2, varOf_idx, varOf_sl, varOf_rev, varOf_call, varOf_meth, varOf_attr, varOf_len, varOf_sum, varOf_sumL, varOf_toInt, varOf_toList, varOf_toTup, varOf_comp, varOf_rng]; exact e1
  have m97 : evP (Γs (n + 2)) ρ (.meth 97 2 [.var 1]) = some (.bool (pic c)) := by subst hρ; simp [evP_lit, evP_var, evP_bin, evP_neg, evP_not, evP_and, evP_or, evP_ite, evP_list, evP_tup, evP_cmp, evP_cmp2, evP_idx, evP_sl, evP_rev, evP_call, evP_meth, evP_attr, evP_len, evP_sum, evP_sumL, evP_toInt, evP_toList, evP_toTup, evP_comp, evP_rng, valAt, evAs_nil, evAs_cons_, varOf_lit, varOf_var, varOf_bin, varOf_neg, varOf_not, varOf_and, varOf_or, varOf_ite, varOf_list, varOf_tup, varOf_cmp, varOf_cmp2, varOf_idx, varOf_sl, varOf_rev, varOf_call, varOf_meth, varOf_attr, varOf_len, varOf_sum, varOf_sumL, varOf_toInt, varOf_toList, varOf_toTup, varOf_comp, varOf_rng]; exact e6
  have m97f : evP (Γs (n + 2)) ρ (.meth 97 2 [.idx (.var 0) (.lit (.int 0))]) = some (.bool (pic (fst cl))) := by subst hρ; simp [evP_lit, evP_var, evP_bin, evP_neg, evP_not, evP_and, evP_or, evP_ite, evP_list, evP_tup, evP_cmp, evP_cmp2, evP_idx, evP_sl, evP_rev, evP_call, evP_meth, evP_attr, evP_len, evP_sum, evP_sumL, evP_toInt, evP_toList, evP_toTup, evP_comp, evP_rng, valAt, evAs_nil, evAs_cons_, varOf_lit, varOf_var, varOf_bin, varOf_neg, varOf_not, varOf_and, varOf_or, varOf_ite, varOf_list, varOf_tup, varOf_cmp, varOf_cmp2, varOf_idx, varOf_sl, varOf_rev, varOf_call, varOf_meth, varOf_attr, varOf_len, varOf_sum, varOf_sumL, varOf_toInt, varOf_toList, varOf_toTup, varOf_comp, varOf_rng, datAt, idxD_1, idxD_2, get_fst h]; exact e7
  have m97b : evP (Γs (n + 2)) ρ (.meth 97 2 [.call 125 [.var 0]]) = some (.bool (pic (bareL cl))) := by subst hρ; simp [evP_lit, evP_var, evP_bin, evP_neg, evP_not, evP_and, evP_or, evP_ite, evP_list, evP_tup, evP_cmp, evP_cmp2, evP_idx, evP_sl, evP_rev, evP_call, evP_meth, evP_attr, evP_len, evP_sum, evP_sumL, evP_toInt, evP_toList, evP_toTup, evP_comp, evP_rng, valAt, evAs_nil, evAs_cons_, varOf_lit, varOf_var, varOf_bin, varOf_neg, varOf_not, varOf_and, varOf_or, varOf_ite, varOf_list, varOf_tup, varOf_cmp, varOf_cmp2, varOf_idx, varOf_sl, varOf_rev, varOf_call, varOf_meth, varOf_attr, varOf_len, varOf_sum, varOf_sumL, varOf_toInt, varOf_toList, varOf_toTup, varOf_comp, varOf_rng, datAt, e5]; exact e8
  have c111 : evP (Γs (n + 2)) ρ (.call 111 [.var 1]) = some (.bool (reg c)) := by rw [ev_call a1]; exact e2
  have c118 : evP (Γs (n + 2)) ρ (.call 118 [.var 1]) = some (.bool (c == 127995)) := by rw [ev_call a1]; exact e4
  have c111l : evP (Γs (n + 2)) ρ (.call 111 [.idx (.var 0) (.neg (.lit (.int 1)))]) = some (.bool (reg (lst cl))) := by
    rw [ev_call (vs := [.dat (.int (lst cl))]) (by simp [evAs_nil, evAs_cons_, varOf_lit, varOf_var, varOf_bin, varOf_neg, varOf_not, varOf_and, varOf_or, varOf_ite, varOf_list, varOf_tup, varOf_cmp, varOf_cmp2, varOf_idx, varOf_sl, varOf_rev, varOf_call, varOf_meth, varOf_attr, varOf_len, varOf_sum, varOf_sumL, varOf_toInt, varOf_toList, varOf_toTup, varOf_comp, varOf_rng, vl])]; exact e3
  have cc : evP (Γs (n + 2)) ρ (.comp 3 (.var 3) (.var 0) [.call 111 [.var 3]]) = some (.list (D (cl.filter reg))) := by
    refine ev_comp (x := .tuple (D cl)) (by subst hρ; rfl) rfl (compGo_filter (fun x hx => ?_) fun x => ?_)
    · have := g111 (hs x hx) (n + 1)
      subst hρ
      simp [evAnd_nil, evAnd_cons_, evP_lit, evP_var, evP_bin, evP_neg, evP_not, evP_and, evP_or, evP_ite, evP_list, evP_tup, evP_cmp, evP_cmp2, evP_idx, evP_sl, evP_rev, evP_call, evP_meth, evP_attr, evP_len, evP_sum, evP_sumL, evP_toInt, evP_toList, evP_toTup, evP_comp, evP_rng, evAs_nil, evAs_cons_, varOf_lit, varOf_var, varOf_bin, varOf_neg, varOf_not, varOf_and, varOf_or, varOf_ite, varOf_list, varOf_tup, varOf_cmp, varOf_cmp2, varOf_idx, varOf_sl, varOf_rev, varOf_call, varOf_meth, varOf_attr, varOf_len, varOf_sum, varOf_sumL, varOf_toInt, varOf_toList, varOf_toTup, varOf_comp, varOf_rng, valAt, this]; cases reg x <;> rfl
    · subst hρ; simp [evP_lit, evP_var, evP_bin, evP_neg, evP_not, evP_and, evP_or, evP_ite, evP_list, evP_tup, evP_cmp, evP_cmp2, evP_idx, evP_sl, evP_rev, evP_call, evP_meth, evP_attr, evP_len, evP_sum, evP_sumL, evP_toInt, evP_toList, evP_toTup, evP_comp, evP_rng, datAt]
  rw [ms_joins, rL_if_f (c := false) (by subst hρ; simp [evP_lit, evP_var, evP_bin, evP_neg, evP_not, evP_and, evP_or, evP_ite, evP_list, evP_tup, evP_cmp, evP_cmp2, evP_idx, evP_sl, evP_rev, evP_call, evP_meth, evP_attr, evP_len, evP_sum, evP_sumL, evP_toInt, evP_toList, evP_toTup, evP_comp, evP_rng, datAt, lenD_1, lenD_2, cmpD_1, cmpD_2, cmpD_3, cmpD_4, cmpD_5, cmpD_6, cmpD_7, cmpD_8, cmpD_9, PyData.depth, PyData.eqv, h]) rfl]
  by_cases hm : mk c = true
  · rw [rL_if_t (c := mk c) (ev_cmp m90 (y := .int 0) (by simp [evP_lit, evP_var, evP_bin, evP_neg, evP_not, evP_and, evP_or, evP_ite, evP_list, evP_tup, evP_cmp, evP_cmp2, evP_idx, evP_sl, evP_rev, evP_call, evP_meth, evP_attr, evP_len, evP_sum, evP_sumL, evP_toInt, evP_toList, evP_toTup, evP_comp, evP_rng]) (by rw [cmp_eqi, wOf_z])) hm (by simp [evP_lit, evP_var, evP_bin, evP_neg, evP_not, evP_and, evP_or, evP_ite, evP_list, evP_tup, evP_cmp, evP_cmp2, evP_idx, evP_sl, evP_rev, evP_call, evP_meth, evP_attr, evP_len, evP_sum, evP_sumL, evP_toInt, evP_toList, evP_toTup, evP_comp, evP_rng]; rfl)]
    simp [joinsL, hm]
  rw [rL_if_f (c := mk c) (ev_cmp m90 (y := .int 0) (by simp [evP_lit, evP_var, evP_bin, evP_neg, evP_not, evP_and, evP_or, evP_ite, evP_list, evP_tup, evP_cmp, evP_cmp2, evP_idx, evP_sl, evP_rev, evP_call, evP_meth, evP_attr, evP_len, evP_sum, evP_sumL, evP_toInt, evP_toList, evP_toTup, evP_comp, evP_rng]) (by rw [cmp_eqi, wOf_z])) (by simpa using hm)]
  by_cases hr : reg c = true
  · rw [rL_if_t c111 hr (ev_and2 (y := (cl.filter reg).length == 1) c111l fun _ => ev_cmp (ev_len (.inl cc)) (y := .int 1) (by simp [evP_lit, evP_var, evP_bin, evP_neg, evP_not, evP_and, evP_or, evP_ite, evP_list, evP_tup, evP_cmp, evP_cmp2, evP_idx, evP_sl, evP_rev, evP_call, evP_meth, evP_attr, evP_len, evP_sum, evP_sumL, evP_toInt, evP_toList, evP_toTup, evP_comp, evP_rng]) (by rw [cmp_eqi]; congr 1; rw [Bool.eq_iff_iff]; simp only [beq_iff_eq, D, List.length_map]; omega))]
    simp [joinsL, hm, hr]
  rw [rL_if_f c111 (by simpa using hr)]
  by_cases hd : c = 127995
  · rw [rL_if_t c118 (by simpa using hd) m97b]
    subst hd
    simp [joinsL, hm, hr]
  rw [rL_if_f c118 (by simpa using hd), rL_ret (ev_and3 (x := lst cl == 8205) (ev_cmp vl (y := .int 8205) (by simp [evP_lit, evP_var, evP_bin, evP_neg, evP_not, evP_and, evP_or, evP_ite, evP_list, evP_tup, evP_cmp, evP_cmp2, evP_idx, evP_sl, evP_rev, evP_call, evP_meth, evP_attr, evP_len, evP_sum, evP_sumL, evP_toInt, evP_toList, evP_toTup, evP_comp, evP_rng]) (cmp_eqi ..)) m97 m97f)]
  simp [joinsL, hm, hr, hd, Bool.and_assoc]
end Mine
end

section
open PySem PyProof.Rows PySem.W
set_option Elab.async false
set_option linter.unusedVariables false
set_option linter.unusedSimpArgs false
set_option maxRecDepth 100000
namespace Mine

theorem eqvAll_D : ∀ a b : List Int, PyData.eqvAll (D a) (D b) = (a == b)
  | [], [] => rfl
  | [], _ :: _ => rfl
  | _ :: _, [] => rfl
  | x :: a, y :: b => by
    have := eqvAll_D a b
    simp only [D] at this
    simp only [D, List.map_cons, PyData.eqvAll, PyData.eqv, this]
    rfl
theorem depthAll_D (l : List Int) : PyData.depthAll (D l) = 0 := depthAll_ints l
theorem flat_D : ∀ l : List Int, flatAll (D l) = true
  | [] => rfl
  | x :: l => by have := flat_D l; simp only [D] at this; simp [D, flatAll, flat, this]
theorem any_D (l : List Int) (c : Int) : (D l).any (fun y => PyData.eqv y (.int c)) = l.contains c := by
  induction l with
  | nil => rfl
  | cons x l ih =>
    simp only [D] at ih
    simp only [D, List.map_cons, List.any_cons, ih, PyData.eqv, List.contains_cons]
    rw [Bool.beq_comm]
theorem isin_D (l : List Int) (c : Int) : cmpD .isin (.int c) (.tuple (D l)) = some (l.contains c) := by
  simp only [cmpD_1, cmpD_2, cmpD_3, cmpD_4, cmpD_5, cmpD_6, cmpD_7, cmpD_8, cmpD_9, depthAll_D, any_D]; simp
theorem isin_DL (l : List Int) (c : Int) : cmpD .isin (.int c) (.list (D l)) = some (l.contains c) := by
  simp only [cmpD_1, cmpD_2, cmpD_3, cmpD_4, cmpD_5, cmpD_6, cmpD_7, cmpD_8, cmpD_9, depthAll_D, any_D]; simp
theorem notin_D (l : List Int) (c : Int) : cmpD .notin (.int c) (.tuple (D l)) = some (!l.contains c) := by
  simp only [cmpD_1, cmpD_2, cmpD_3, cmpD_4, cmpD_5, cmpD_6, cmpD_7, cmpD_8, cmpD_9, depthAll_D, any_D]; simp
theorem mk_c (c : Int) : [769, 8205, 65039, 8419].contains c = mk c := by simp only [mk, List.contains_cons, List.contains_nil, Bool.or_false, Bool.or_assoc]
theorem reg_c (c : Int) : [127462, 127487].contains c = reg c := by simp only [reg, List.contains_cons, List.contains_nil, Bool.or_false, Bool.or_assoc]
theorem pic_c (c : Int) : [128000, 10084].contains c = pic c := by simp only [pic, List.contains_cons, List.contains_nil, Bool.or_false, Bool.or_assoc]
theorem isin_mk (c : Int) : cmpD .isin (.int c) (.tuple [.int 769, .int 8205, .int 65039, .int 8419]) = some (mk c) := by rw [← mk_c]; exact isin_D [769, 8205, 65039, 8419] c
theorem notin_mk (c : Int) : cmpD .notin (.int c) (.tuple [.int 769, .int 8205, .int 65039, .int 8419]) = some (!mk c) := by rw [← mk_c]; exact notin_D [769, 8205, 65039, 8419] c
theorem isin_reg (c : Int) : cmpD .isin (.int c) (.tuple [.int 127462, .int 127487]) = some (reg c) := by rw [← reg_c]; exact isin_D [127462, 127487] c
theorem notin_reg (c : Int) : cmpD .notin (.int c) (.tuple [.int 127462, .int 127487]) = some (!reg c) := by rw [← reg_c]; exact notin_D [127462, 127487] c
theorem isin_pic (c : Int) : cmpD .isin (.int c) (.tuple [.int 128000, .int 10084]) = some (pic c) := by rw [← pic_c]; exact isin_D [128000, 10084] c
theorem notin_pic (c : Int) : cmpD .notin (.int c) (.tuple [.int 128000, .int 10084]) = some (!pic c) := by rw [← pic_c]; exact notin_D [128000, 10084] c
theorem eq_tupD (a b : List Int) : cmpD .eq (.tuple (D a)) (.tuple (D b)) = some (a == b) := by
  simp only [cmpD_1, cmpD_2, cmpD_3, cmpD_4, cmpD_5, cmpD_6, cmpD_7, cmpD_8, cmpD_9, PyData.depth, depthAll_D, PyData.eqv, eqvAll_D]; simp
theorem eq_lisD (a b : List Int) : cmpD .eq (.list (D a)) (.list (D b)) = some (a == b) := by
  simp only [cmpD_1, cmpD_2, cmpD_3, cmpD_4, cmpD_5, cmpD_6, cmpD_7, cmpD_8, cmpD_9, PyData.depth, depthAll_D, PyData.eqv, eqvAll_D]; simp

noncomputable def last2 (l : List Int) : List Int := l.drop (l.length - 2)
theorem pySl_2 (l : List Int) : pySl (D l) (some (-2)) none = D (last2 l) := by
  have e : clipAt l.length (-2) = l.length - 2 := by
    have := clipAt_cast l.length (-2)
    simp at this
    omega
  simp only [pySl, Option.elim, D, List.length_map, e, last2, ← List.map_drop]
  rw [← List.map_take, List.take_of_length_le (by simp)]

noncomputable def cwL (way : Nat) (cl : List Int) : Int :=
  if wOf way (fst cl) == 2 || decide (1 < (cl.filter reg).length) then 2 else if cl.contains 65039 && pic (fst cl) then 2 else if last2 cl == [65039, 8419] then 2 else 1
noncomputable def tkL (wide : List Int) (cl : List Int) : Int :=
  if wide.contains (fst cl) && !mk (fst cl) then 2 else if (cl.filter reg).length == 2 then 2 else if (pic (fst cl) && cl.contains 65039) || last2 cl == [65039, 8419] then 2 else 1

theorem g135 {way : Nat} {cl : List Int} (hw : way < 3) (h : cl ≠ []) (hs : ∀ x ∈ cl, x ∈ sorts) (n : Nat) : Γs (n + 3) 135 [.dat (.tuple (D cl)), tabOf way] = some (.int (cwL way cl)) := by
  refine Γs_ret (ms := ms_cw) (ow := 99) (j := 3) (ar := 2) (by kernel_rfl) rfl ?_
  have e1 := g90 hw (hs _ (fst_mem h)) n
  have e7 := g97 (way := way) (hs _ (fst_mem h)) n
  unfold tabOf at *
  show rL _ 99 ms_cw [some (.dat (.tuple (D cl))), some (.tab _ _ _), none, none, none] = _
  generalize hρ : ([some (.dat (.tuple (D cl))), some (.tab (rgD (rangesOf way)) marksD joinD), none, none, none] : Env0) = ρ
  have v0 : evP (Γs (n + 2)) ρ (.var 0) = some (.tuple (D cl)) := by subst hρ; rfl
  have vf : evP (Γs (n + 2)) ρ (.idx (.var 0) (.lit (.int 0))) = some (.int (fst cl)) := by subst hρ; simp [evP_lit, evP_var, evP_bin, evP_neg, evP_not, evP_and, evP_or, evP_ite, evP_list, evP_tup, evP_cmp, evP_cmp2, evP_idx, evP_sl, evP_rev, evP_call, evP_meth, evP_attr, evP_len, evP_sum, evP_sumL, evP_toInt, evP_toList, evP_toTup, evP_comp, evP_rng, datAt, idxD_1, idxD_2, get_fst h]
  have m90 : evP (Γs (n + 2)) ρ (.meth 90 1 [.idx (.var 0) (.lit (.int 0))]) = some (.int (wOf way (fst cl))) := by subst hρ; simp [evP_lit, evP_var, evP_bin, evP_neg, evP_not, evP_and, evP_or, evP_ite, evP_list, evP_tup, evP_cmp, evP_cmp2, evP_idx, evP_sl, evP_rev, evP_call, evP_meth, evP_attr, evP_len, evP_sum, evP_sumL, evP_toInt, evP_toList, evP_toTup, evP_comp, evP_rng, valAt, evAs_nil, evAs_cons_, varOf_lit, varOf_var, varOf_bin, varOf_neg, varOf_not, varOf_and, varOf_or, varOf_ite, varOf_list, varOf_tup, varOf_cmp, varOf_cmp2, varOf_idx, varOf_sl, varOf_rev, varOf_call, varOf_meth, varOf_attr, varOf_len, varOf_sum, varOf_sumL, varOf_toInt, varOf_toList, varOf_toTup, varOf_comp, varOf_rng, datAt, idxD_1, idxD_2, get_fst h]; exact e1
  have m97 : evP (Γs (n + 2)) ρ (.meth 97 1 [.idx (.var 0) (.lit (.int 0))]) = some (.bool (pic (fst cl))) := by subst hρ; simp [evP_lit, evP_var, evP_bin, evP_neg, evP_not, evP_and, evP_or, evP_ite, evP_list, evP_tup, evP_cmp, evP_cmp2, evP_idx, evP_sl, evP_rev, evP_call, evP_meth, evP_attr, evP_len, evP_sum, evP_sumL, evP_toInt, evP_toList, evP_toTup, evP_comp, evP_rng, valAt, evAs_nil, evAs_cons_, varOf_lit, varOf_var, varOf_bin, varOf_neg, varOf_not, varOf_and, varOf_or, varOf_ite, varOf_list, varOf_tup, varOf_cmp, varOf_cmp2, varOf_idx, varOf_sl, varOf_rev, varOf_call, varOf_meth, varOf_attr, varOf_len, varOf_sum, varOf_sumL, varOf_toInt, varOf_toList, varOf_toTup, varOf_comp, varOf_rng, datAt, idxD_1, idxD_2, get_fst h]; exact e7
  have cc : evP (Γs (n + 2)) ρ (.comp 2 (.var 2) (.var 0) [.call 111 [.var 2]]) = some (.list (D (cl.filter reg))) := by
    refine ev_comp (x := .tuple (D cl)) v0 rfl (compGo_filter (fun x hx => ?_) fun x => ?_)
    · have := g111 (hs x hx) (n + 1)
      subst hρ
      simp [evAnd_nil, evAnd_cons_, evP_lit, evP_var, evP_bin, evP_neg, evP_not, evP_and, evP_or, evP_ite, evP_list, evP_tup, evP_cmp, evP_cmp2, evP_idx, evP_sl, evP_rev, evP_call, evP_meth, evP_attr, evP_len, evP_sum, evP_sumL, evP_toInt, evP_toList, evP_toTup, evP_comp, evP_rng, evAs_nil, evAs_cons_, varOf_lit, varOf_var, varOf_bin, varOf_neg, varOf_not, varOf_and, varOf_or, varOf_ite, varOf_list, varOf_tup, varOf_cmp, varOf_cmp2, varOf_idx, varOf_sl, varOf_rev, varOf_call, varOf_meth, varOf_attr, varOf_len, varOf_sum, varOf_sumL, varOf_toInt, varOf_toList, varOf_toTup, varOf_comp, varOf_rng, valAt, this]; cases reg x <;> rfl
    · subst hρ; simp [evP_lit, evP_var, evP_bin, evP_neg, evP_not, evP_and, evP_or, evP_ite, evP_list, evP_tup, evP_cmp, evP_cmp2, evP_idx, evP_sl, evP_rev, evP_call, evP_meth, evP_attr, evP_len, evP_sum, evP_sumL, evP_toInt, evP_toList, evP_toTup, evP_comp, evP_rng, datAt]
  have l2 : evP (Γs (n + 2)) ρ (.toTup (.sl (.var 0) (.neg (.lit (.int 2))) (.lit .none))) = some (.tuple (D (last2 cl))) := by
    have := pySl_2 cl
    subst hρ; simp [evP_lit, evP_var, evP_bin, evP_neg, evP_not, evP_and, evP_or, evP_ite, evP_list, evP_tup, evP_cmp, evP_cmp2, evP_idx, evP_sl, evP_rev, evP_call, evP_meth, evP_attr, evP_len, evP_sum, evP_sumL, evP_toInt, evP_toList, evP_toTup, evP_comp, evP_rng, datAt, slD, partD_1, partD_2, items_1, items_2, this]
  have t2 : evP (Γs (n + 2)) ρ (.tup [.lit (.int 65039), .lit (.int 8419)]) = some (.tuple (D [65039, 8419])) := by simp [evP_lit, evP_var, evP_bin, evP_neg, evP_not, evP_and, evP_or, evP_ite, evP_list, evP_tup, evP_cmp, evP_cmp2, evP_idx, evP_sl, evP_rev, evP_call, evP_meth, evP_attr, evP_len, evP_sum, evP_sumL, evP_toInt, evP_toList, evP_toTup, evP_comp, evP_rng, evDs_nil, evDs_cons_]
  have b1 : evP (Γs (n + 2)) ρ (.or [.cmp .eq (.meth 90 1 [.idx (.var 0) (.lit (.int 0))]) (.lit (.int 2)), .cmp .gt (.len (.comp 2 (.var 2) (.var 0) [.call 111 [.var 2]])) (.lit (.int 1))]) = some (.bool (wOf way (fst cl) == 2 || decide (1 < (cl.filter reg).length))) :=
    ev_or2 (ev_cmp m90 (y := .int 2) (by simp [evP_lit, evP_var, evP_bin, evP_neg, evP_not, evP_and, evP_or, evP_ite, evP_list, evP_tup, evP_cmp, evP_cmp2, evP_idx, evP_sl, evP_rev, evP_call, evP_meth, evP_attr, evP_len, evP_sum, evP_sumL, evP_toInt, evP_toList, evP_toTup, evP_comp, evP_rng]) (cmp_eqi ..)) fun _ => ev_cmp (ev_len (.inl cc)) (y := .int 1) (by simp [evP_lit, evP_var, evP_bin, evP_neg, evP_not, evP_and, evP_or, evP_ite, evP_list, evP_tup, evP_cmp, evP_cmp2, evP_idx, evP_sl, evP_rev, evP_call, evP_meth, evP_attr, evP_len, evP_sum, evP_sumL, evP_toInt, evP_toList, evP_toTup, evP_comp, evP_rng]) (by simp only [cmpD_1, cmpD_2, cmpD_3, cmpD_4, cmpD_5, cmpD_6, cmpD_7, cmpD_8, cmpD_9, D, List.length_map]; congr 1; rw [Bool.eq_iff_iff]; simp only [decide_eq_true_eq]; omega)
  have b2 : evP (Γs (n + 2)) ρ (.and [.cmp .isin (.lit (.int 65039)) (.var 0), .meth 97 1 [.idx (.var 0) (.lit (.int 0))]]) = some (.bool (cl.contains 65039 && pic (fst cl))) :=
    ev_and2 (ev_cmp (x := .int 65039) (by simp [evP_lit, evP_var, evP_bin, evP_neg, evP_not, evP_and, evP_or, evP_ite, evP_list, evP_tup, evP_cmp, evP_cmp2, evP_idx, evP_sl, evP_rev, evP_call, evP_meth, evP_attr, evP_len, evP_sum, evP_sumL, evP_toInt, evP_toList, evP_toTup, evP_comp, evP_rng]) v0 (isin_D ..)) fun _ => m97
  rw [ms_cw, rL_if_f (c := false) (ev_cmp (ev_len (.inr v0)) (y := .int 0) (by simp [evP_lit, evP_var, evP_bin, evP_neg, evP_not, evP_and, evP_or, evP_ite, evP_list, evP_tup, evP_cmp, evP_cmp2, evP_idx, evP_sl, evP_rev, evP_call, evP_meth, evP_attr, evP_len, evP_sum, evP_sumL, evP_toInt, evP_toList, evP_toTup, evP_comp, evP_rng]) (by rw [cmp_eqi]; simp; exact h)) rfl]
  unfold cwL
  by_cases h1 : (wOf way (fst cl) == 2 || decide (1 < (cl.filter reg).length)) = true
  · rw [rL_if_t b1 h1 (d := .int 2) (by simp [evP_lit, evP_var, evP_bin, evP_neg, evP_not, evP_and, evP_or, evP_ite, evP_list, evP_tup, evP_cmp, evP_cmp2, evP_idx, evP_sl, evP_rev, evP_call, evP_meth, evP_attr, evP_len, evP_sum, evP_sumL, evP_toInt, evP_toList, evP_toTup, evP_comp, evP_rng]), if_pos h1]
  rw [rL_if_f b1 (by simpa using h1), if_neg h1]
  by_cases h2 : (cl.contains 65039 && pic (fst cl)) = true
  · rw [rL_if_t b2 h2 (d := .int 2) (by simp [evP_lit, evP_var, evP_bin, evP_neg, evP_not, evP_and, evP_or, evP_ite, evP_list, evP_tup, evP_cmp, evP_cmp2, evP_idx, evP_sl, evP_rev, evP_call, evP_meth, evP_attr, evP_len, evP_sum, evP_sumL, evP_toInt, evP_toList, evP_toTup, evP_comp, evP_rng]), if_pos h2]
  rw [rL_if_f b2 (by simpa using h2), if_neg h2]
  rw [rL_ret (ev_ite (ev_cmp l2 t2 (eq_tupD ..)) (d1 := .int 2) (d2 := .int 1) (fun _ => by simp [evP_lit, evP_var, evP_bin, evP_neg, evP_not, evP_and, evP_or, evP_ite, evP_list, evP_tup, evP_cmp, evP_cmp2, evP_idx, evP_sl, evP_rev, evP_call, evP_meth, evP_attr, evP_len, evP_sum, evP_sumL, evP_toInt, evP_toList, evP_toTup, evP_comp, evP_rng]) fun _ => by simp [evP_lit, evP_var, evP_bin, evP_neg, evP_not, evP_and, evP_or, evP_ite, evP_list, evP_tup, evP_cmp, evP_cmp2, evP_idx, evP_sl, evP_rev, evP_call, evP_meth, evP_attr, evP_len, evP_sum, evP_sumL, evP_toInt, evP_toList, evP_toTup, evP_comp, evP_rng])]
  congr 2
  split <;> rfl

theorem g208 {wide cl : List Int} (h : cl ≠ []) (n : Nat) : Γs (n + 1) 208 [.dat (.list (D cl)), .dat (.tuple (D wide))] = some (.int (tkL wide cl)) := by
  refine Γs_ret (ms := ms_takes) (ow := 99) (j := 3) (ar := 2) (by kernel_rfl) rfl ?_
  show rL _ 99 ms_takes [some (.dat (.list (D cl))), some (.dat (.tuple (D wide))), none, none, none] = _
  generalize hρ : ([some (.dat (.list (D cl))), some (.dat (.tuple (D wide))), none, none, none] : Env0) = ρ
  have v0 : evP (Γs n) ρ (.var 0) = some (.list (D cl)) := by subst hρ; rfl
  have v1 : evP (Γs n) ρ (.var 1) = some (.tuple (D wide)) := by subst hρ; rfl
  have vf : evP (Γs n) ρ (.idx (.var 0) (.lit (.int 0))) = some (.int (fst cl)) := by subst hρ; simp [evP_lit, evP_var, evP_bin, evP_neg, evP_not, evP_and, evP_or, evP_ite, evP_list, evP_tup, evP_cmp, evP_cmp2, evP_idx, evP_sl, evP_rev, evP_call, evP_meth, evP_attr, evP_len, evP_sum, evP_sumL, evP_toInt, evP_toList, evP_toTup, evP_comp, evP_rng, datAt, idxD_1, idxD_2, get_fst h]
  have cc : evP (Γs n) ρ (.comp 2 (.var 2) (.var 0) [.cmp .isin (.var 2) (.lit (.tuple [.int 127462, .int 127487]))]) = some (.list (D (cl.filter reg))) := by
    refine ev_comp (x := .list (D cl)) v0 rfl (compGo_filter (fun x hx => ?_) fun x => ?_)
    · have := isin_reg x
      subst hρ
      simp [evAnd_nil, evAnd_cons_, evP_lit, evP_var, evP_bin, evP_neg, evP_not, evP_and, evP_or, evP_ite, evP_list, evP_tup, evP_cmp, evP_cmp2, evP_idx, evP_sl, evP_rev, evP_call, evP_meth, evP_attr, evP_len, evP_sum, evP_sumL, evP_toInt, evP_toList, evP_toTup, evP_comp, evP_rng, datAt, this]; cases reg x <;> rfl
    · subst hρ; simp [evP_lit, evP_var, evP_bin, evP_neg, evP_not, evP_and, evP_or, evP_ite, evP_list, evP_tup, evP_cmp, evP_cmp2, evP_idx, evP_sl, evP_rev, evP_call, evP_meth, evP_attr, evP_len, evP_sum, evP_sumL, evP_toInt, evP_toList, evP_toTup, evP_comp, evP_rng, datAt]
  have l2 : evP (Γs n) ρ (.sl (.var 0) (.neg (.lit (.int 2))) (.lit .none)) = some (.list (D (last2 cl))) := by
    have := pySl_2 cl
    subst hρ; simp [evP_lit, evP_var, evP_bin, evP_neg, evP_not, evP_and, evP_or, evP_ite, evP_list, evP_tup, evP_cmp, evP_cmp2, evP_idx, evP_sl, evP_rev, evP_call, evP_meth, evP_attr, evP_len, evP_sum, evP_sumL, evP_toInt, evP_toList, evP_toTup, evP_comp, evP_rng, datAt, slD, partD_1, partD_2, items_1, items_2, this]
  have t2 : evP (Γs n) ρ (.list [.lit (.int 65039), .lit (.int 8419)]) = some (.list (D [65039, 8419])) := by simp [evP_lit, evP_var, evP_bin, evP_neg, evP_not, evP_and, evP_or, evP_ite, evP_list, evP_tup, evP_cmp, evP_cmp2, evP_idx, evP_sl, evP_rev, evP_call, evP_meth, evP_attr, evP_len, evP_sum, evP_sumL, evP_toInt, evP_toList, evP_toTup, evP_comp, evP_rng, evDs_nil, evDs_cons_]
  have b1 : evP (Γs n) ρ (.and [.cmp .isin (.idx (.var 0) (.lit (.int 0))) (.var 1), .cmp .notin (.idx (.var 0) (.lit (.int 0))) (.lit (.tuple [.int 769, .int 8205, .int 65039, .int 8419]))]) = some (.bool (wide.contains (fst cl) && !mk (fst cl))) :=
    ev_and2 (ev_cmp vf v1 (isin_D ..)) fun _ => ev_cmp vf (y := .tuple [.int 769, .int 8205, .int 65039, .int 8419]) (by simp [evP_lit, evP_var, evP_bin, evP_neg, evP_not, evP_and, evP_or, evP_ite, evP_list, evP_tup, evP_cmp, evP_cmp2, evP_idx, evP_sl, evP_rev, evP_call, evP_meth, evP_attr, evP_len, evP_sum, evP_sumL, evP_toInt, evP_toList, evP_toTup, evP_comp, evP_rng]) (notin_mk _)
  have b2 : evP (Γs n) ρ (.cmp .eq (.len (.comp 2 (.var 2) (.var 0) [.cmp .isin (.var 2) (.lit (.tuple [.int 127462, .int 127487]))])) (.lit (.int 2))) = some (.bool ((cl.filter reg).length == 2)) :=
    ev_cmp (ev_len (.inl cc)) (y := .int 2) (by simp [evP_lit, evP_var, evP_bin, evP_neg, evP_not, evP_and, evP_or, evP_ite, evP_list, evP_tup, evP_cmp, evP_cmp2, evP_idx, evP_sl, evP_rev, evP_call, evP_meth, evP_attr, evP_len, evP_sum, evP_sumL, evP_toInt, evP_toList, evP_toTup, evP_comp, evP_rng]) (by rw [cmp_eqi]; congr 1; rw [Bool.eq_iff_iff]; simp only [beq_iff_eq, D, List.length_map]; omega)
  have b3 : evP (Γs n) ρ (.or [.and [.cmp .isin (.idx (.var 0) (.lit (.int 0))) (.lit (.tuple [.int 128000, .int 10084])), .cmp .isin (.lit (.int 65039)) (.var 0)], .cmp .eq (.sl (.var 0) (.neg (.lit (.int 2))) (.lit .none)) (.list [.lit (.int 65039), .lit (.int 8419)])]) = some (.bool ((pic (fst cl) && cl.contains 65039) || last2 cl == [65039, 8419])) :=
    ev_or2 (ev_and2 (ev_cmp vf (y := .tuple [.int 128000, .int 10084]) (by simp [evP_lit, evP_var, evP_bin, evP_neg, evP_not, evP_and, evP_or, evP_ite, evP_list, evP_tup, evP_cmp, evP_cmp2, evP_idx, evP_sl, evP_rev, evP_call, evP_meth, evP_attr, evP_len, evP_sum, evP_sumL, evP_toInt, evP_toList, evP_toTup, evP_comp, evP_rng]) (isin_pic _)) fun _ => ev_cmp (x := .int 65039) (by simp [evP_lit, evP_var, evP_bin, evP_neg, evP_not, evP_and, evP_or, evP_ite, evP_list, evP_tup, evP_cmp, evP_cmp2, evP_idx, evP_sl, evP_rev, evP_call, evP_meth, evP_attr, evP_len, evP_sum, evP_sumL, evP_toInt, evP_toList, evP_toTup, evP_comp, evP_rng]) v0 (isin_DL ..)) fun _ => ev_cmp l2 t2 (eq_lisD ..)
  unfold tkL
  rw [ms_takes]
  by_cases h1 : (wide.contains (fst cl) && !mk (fst cl)) = true
  · rw [rL_if_t b1 h1 (d := .int 2) (by simp [evP_lit, evP_var, evP_bin, evP_neg, evP_not, evP_and, evP_or, evP_ite, evP_list, evP_tup, evP_cmp, evP_cmp2, evP_idx, evP_sl, evP_rev, evP_call, evP_meth, evP_attr, evP_len, evP_sum, evP_sumL, evP_toInt, evP_toList, evP_toTup, evP_comp, evP_rng]), if_pos h1]
  rw [rL_if_f b1 (by simpa using h1), if_neg h1]
  by_cases h2 : ((cl.filter reg).length == 2) = true
  · rw [rL_if_t b2 h2 (d := .int 2) (by simp [evP_lit, evP_var, evP_bin, evP_neg, evP_not, evP_and, evP_or, evP_ite, evP_list, evP_tup, evP_cmp, evP_cmp2, evP_idx, evP_sl, evP_rev, evP_call, evP_meth, evP_attr, evP_len, evP_sum, evP_sumL, evP_toInt, evP_toList, evP_toTup, evP_comp, evP_rng]), if_pos h2]
  rw [rL_if_f b2 (by simpa using h2), if_neg h2]
  by_cases h3 : ((pic (fst cl) && cl.contains 65039) || last2 cl == [65039, 8419]) = true
  · rw [rL_if_t b3 h3 (d := .int 2) (by simp [evP_lit, evP_var, evP_bin, evP_neg, evP_not, evP_and, evP_or, evP_ite, evP_list, evP_tup, evP_cmp, evP_cmp2, evP_idx, evP_sl, evP_rev, evP_call, evP_meth, evP_attr, evP_len, evP_sum, evP_sumL, evP_toInt, evP_toList, evP_toTup, evP_comp, evP_rng]), if_pos h3]
  rw [rL_if_f b3 (by simpa using h3), if_neg h3, rL_ret (d := .int 1) (by simp [evP_lit, evP_var, evP_bin, evP_neg, evP_not, evP_and, evP_or, evP_ite, evP_list, evP_tup, evP_cmp, evP_cmp2, evP_idx, evP_sl, evP_rev, evP_call, evP_meth, evP_attr, evP_len, evP_sum, evP_sumL, evP_toInt, evP_toList, evP_toTup, evP_comp, evP_rng])]
end Mine
end

section
open PySem PyProof.Rows PySem.W
set_option Elab.async false
set_option linter.unusedVariables false
set_option linter.unusedSimpArgs false
set_option maxRecDepth 100000
namespace Mine

structure Ok (cl : List Int) : Prop where
  ne : cl ≠ []
  so : ∀ x ∈ cl, x ∈ sorts
  two : (cl.filter reg).length ≤ 2
  one : reg (lst cl) = true → (cl.filter reg).length = 1 → cl = [lst cl]

theorem lst_snoc (a : List Int) (c : Int) : lst (a ++ [c]) = c := by simp [lst]
theorem Ok.single {c : Int} (h : c ∈ sorts) : Ok [c] where
  ne := by simp
  so := fun x hx => by simp at hx; subst hx; exact h
  two := Nat.le_trans (List.length_filter_le ..) (by simp)
  one := fun _ _ => by simp [lst]
theorem mk_of_reg {c : Int} (h : reg c = true) : mk c = false := by
  simp [reg] at h
  rcases h with rfl | rfl <;> decide
theorem Ok.snoc {cl : List Int} {c : Int} (o : Ok cl) (h : c ∈ sorts) (hj : joinsL cl c = true) : Ok (cl ++ [c]) where
  ne := by simp
  so := fun x hx => by
    rcases List.mem_append.mp hx with hx | hx
    · exact o.so x hx
    · simp at hx; subst hx; exact h
  two := by
    rw [List.filter_append, List.length_append]
    cases hr : reg c with
    | false => simpa [hr] using o.two
    | true =>
      unfold joinsL at hj
      rw [mk_of_reg hr, hr] at hj
      simp at hj
      simp [hr, hj.2]
  one := by
    rw [lst_snoc, List.filter_append, List.length_append]
    intro hr hc
    unfold joinsL at hj
    rw [mk_of_reg hr, hr] at hj
    simp at hj
    simp [hr, hj.2] at hc

theorem reg_one {cl : List Int} (o : Ok cl) : (reg (lst cl) && (cl.filter reg).length == 1) = (cl == [127462] || cl == [127487]) := by
  rw [Bool.eq_iff_iff]
  simp only [Bool.and_eq_true, Bool.or_eq_true, beq_iff_eq]
  constructor
  · rintro ⟨h1, h2⟩
    have := o.one h1 h2
    simp [reg] at h1
    rcases h1 with h1 | h1 <;> rw [h1] at this
    · exact .inl this
    · exact .inr this
  · rintro (h | h) <;> subst h <;> decide

noncomputable def lawJoin (cl : List Int) (c : Int) : Bool :=
  if mk c then true else if pic c then lst cl == 8205 && pic (fst cl) else if c == 127995 then pic (bareL cl) else reg c && (cl == [127462] || cl == [127487])
theorem joins_law {cl : List Int} {c : Int} (o : Ok cl) (h : c ∈ sorts) : joinsL cl c = lawJoin cl c := by
  refine forall_sorts (p := fun c => joinsL cl c = lawJoin cl c) ?_ c h
  have := reg_one o
  refine ⟨?_, ?_, ?_, ?_, ?_, ?_, ?_, ?_, ?_, ?_, ?_, ?_⟩ <;> simp [joinsL, lawJoin, mk, reg, pic] <;> simpa [reg] using this

noncomputable def stepL (found : List (List Int)) (c : Int) : List (List Int) :=
  match found.getLast? with
  | none => [[c]]
  | some cl => if joinsL cl c then found.dropLast ++ [cl ++ [c]] else found ++ [[c]]
theorem stepL_nil (c : Int) : stepL [] c = [[c]] := rfl
theorem stepL_snoc (a : List (List Int)) (cl : List Int) (c : Int) : stepL (a ++ [cl]) c = if joinsL cl c then a ++ [cl ++ [c]] else a ++ [cl] ++ [[c]] := by
  simp [stepL]
noncomputable def splitL (row : List Int) : List (List Int) := row.foldl stepL []
theorem split_snoc (row : List Int) (c : Int) : splitL (row ++ [c]) = stepL (splitL row) c := by simp [splitL]

noncomputable def OkF (found : List (List Int)) : Prop := ∀ cl ∈ found, Ok cl
theorem OkF.step {found : List (List Int)} {c : Int} (o : OkF found) (h : c ∈ sorts) : OkF (stepL found c) := by
  by_cases hf : found = []
  · subst hf
    intro cl hcl
    rw [stepL_nil] at hcl
    simp at hcl; subst hcl; exact .single h
  · obtain ⟨a, cl, rfl⟩ := snoc_of hf
    rw [stepL_snoc]
    split
    · rename_i hj
      intro x hx
      rcases List.mem_append.mp hx with hx | hx
      · exact o x (List.mem_append_left _ hx)
      · simp at hx; subst hx; exact (o cl (by simp)).snoc h hj
    · intro x hx
      rcases List.mem_append.mp hx with hx | hx
      · exact o x hx
      · simp at hx; subst hx; exact .single h
theorem step_flat (found : List (List Int)) (c : Int) : (stepL found c).flatten = found.flatten ++ [c] := by
  by_cases hf : found = []
  · subst hf; rfl
  · obtain ⟨a, cl, rfl⟩ := snoc_of hf
    rw [stepL_snoc]
    split <;> simp
theorem split_ok : ∀ (row : List Int) (found : List (List Int)), (∀ c ∈ row, c ∈ sorts) → OkF found → OkF (row.foldl stepL found)
  | [], _, _, o => o
  | c :: row, found, h, o => split_ok row _ (fun x hx => h x (List.mem_cons_of_mem _ hx)) (o.step (h c (List.mem_cons_self ..)))
theorem splitL_ok {row : List Int} (h : ∀ c ∈ row, c ∈ sorts) : OkF (splitL row) := split_ok row [] h (fun _ h => by cases h)
theorem split_flat : ∀ (row : List Int) (found : List (List Int)), (row.foldl stepL found).flatten = found.flatten ++ row
  | [], _ => by simp
  | c :: row, found => by rw [List.foldl_cons, split_flat row, step_flat]; simp
theorem splitL_flat (row : List Int) : (splitL row).flatten = row := by rw [splitL, split_flat]; rfl
theorem len_flat : ∀ {found : List (List Int)}, (∀ cl ∈ found, cl ≠ []) → found.length ≤ found.flatten.length
  | [], _ => by simp
  | cl :: r, h => by
    have := len_flat (found := r) fun x hx => h x (List.mem_cons_of_mem _ hx)
    have := List.length_pos_iff.mpr (h cl (List.mem_cons_self ..))
    simp only [List.length_cons, List.flatten_cons, List.length_append]
    omega
theorem mem_flat {found : List (List Int)} {cl : List Int} (h : cl ∈ found) : cl.length ≤ found.flatten.length := by
  induction found with
  | nil => cases h
  | cons a r ih =>
    simp only [List.flatten_cons, List.length_append]
    rcases List.mem_cons.mp h with rfl | h
    · omega
    · have := ih h; omega

noncomputable abbrev TT (found : List (List Int)) : List PyData := found.map fun cl => .tuple (D cl)
theorem flat_TT : ∀ found : List (List Int), flatAll (TT found) = true
  | [] => rfl
  | cl :: r => by have := flat_TT r; simp only [TT] at this; simp [TT, flatAll, flat, this]; exact flat_D cl
theorem set_snoc {α : Type} (a : List α) (x y : α) : (a ++ [x]).set a.length y = a ++ [y] := by
  rw [List.set_append_right _ _ (Nat.le_refl _)]; simp
theorem get_snoc (a : List PyData) (x : PyData) : pyGet (a ++ [x]) (-1) = some x := by
  have e : (-1 + ((a.length : Int) + 1)).toNat = a.length := by omega
  simp [pyGet, e]
  omega
theorem ne_nil (xs : List PyData) : cmpD .ne (.list xs) (.list []) = some (!xs.isEmpty) := by
  cases xs <;> simp [cmpD_1, cmpD_2, cmpD_3, cmpD_4, cmpD_5, cmpD_6, cmpD_7, cmpD_8, cmpD_9, PyData.depth, PyData.depthAll, PyData.eqv, PyData.eqvAll] <;> omega

noncomputable abbrev bodySplit : List MS := [.ite (.and [(.cmp .ne (.var 2) (.list [])), (.call 130 [(.idx (.var 2) (.neg (.lit (.int 1)))), (.var 3), (.var 1)])]) [.setL (.bin .add (.idx (.var 2) (.neg (.lit (.int 1)))) (.tup [(.var 3)]))] [.push (.tup [(.var 3)])]]

theorem split_body {way : Nat} {row : List Int} {found : List (List Int)} {c : Int} (hw : way < 3) (o : OkF found) (hc : c ∈ sorts) (hl : found.flatten.length < 1000) (n : Nat) :
    rL (Γs (n + 3)) 2 bodySplit [some (.dat (.list (D row))), some (tabOf way), some (.dat (.list (TT found))), some (.dat (.int c)), none, none, none] = some (.nxt [some (.dat (.list (D row))), some (tabOf way), some (.dat (.list (TT (stepL found c)))), some (.dat (.int c)), none, none, none]) := by
  have hlf := len_flat fun cl h => (o cl h).ne
  by_cases hf : found = []
  · subst hf
    simp [bodySplit, rL_nil, rL_cons_, rS_asg, rS_unp, rS_own, rS_own2, rS_aug, rS_ret, rS_ite, rS_for1, rS_whl, rS_push, rS_ext, rS_err, rS_drop, rS_forE, rS_forZ, rS_setL, evP_lit, evP_var, evP_bin, evP_neg, evP_not, evP_and, evP_or, evP_ite, evP_list, evP_tup, evP_cmp, evP_cmp2, evP_idx, evP_sl, evP_rev, evP_call, evP_meth, evP_attr, evP_len, evP_sum, evP_sumL, evP_toInt, evP_toList, evP_toTup, evP_comp, evP_rng, evAnd_nil, evAnd_cons_, evDs_nil, evDs_cons_, datAt, ownXs, cmpD_1, cmpD_2, cmpD_3, cmpD_4, cmpD_5, cmpD_6, cmpD_7, cmpD_8, cmpD_9, PyData.depth, PyData.depthAll, PyData.eqv, PyData.eqvAll, flat, flatAll, stepL_nil, TT]
  · obtain ⟨a, cl, rfl⟩ := snoc_of hf
    have hcl : Ok cl := o cl (by simp)
    have hml := mem_flat (found := a ++ [cl]) (cl := cl) (by simp)
    have hg := g130 hw hcl.ne hcl.so hc n
    have hgl := get_snoc (TT a) (.tuple (D cl))
    have hcln := hcl.ne
    have hss := set_snoc (TT a) (PyData.tuple (D cl)) (PyData.tuple (D cl ++ [.int c]))
    have hfl := flat_D cl
    have hfl2 : flatAll (D cl ++ [.int c]) = true := by have := flat_D (cl ++ [c]); simpa using this
    have q1 : cl.length ≤ 999999 := by omega
    have q2 : a.length + 1 < 1000000 := by simp only [List.length_append, List.length_cons, List.length_nil] at hlf; omega
    rw [stepL_snoc]
    simp only [List.map_append, List.map_cons, List.map_nil, List.length_append, List.length_cons, List.length_nil, Nat.zero_add, List.length_map] at *
    have hne := ne_nil (TT a ++ [PyData.tuple (D cl)])
    have hem : (TT a ++ [PyData.tuple (D cl)]).isEmpty = false := by cases a <;> rfl
    rw [hem] at hne
    unfold tabOf at *
    cases hj : joinsL cl c with
    | true =>
      rw [hj] at hg
      simp [bodySplit, rL_nil, rL_cons_, rS_asg, rS_unp, rS_own, rS_own2, rS_aug, rS_ret, rS_ite, rS_for1, rS_whl, rS_push, rS_ext, rS_err, rS_drop, rS_forE, rS_forZ, rS_setL, evP_lit, evP_var, evP_bin, evP_neg, evP_not, evP_and, evP_or, evP_ite, evP_list, evP_tup, evP_cmp, evP_cmp2, evP_idx, evP_sl, evP_rev, evP_call, evP_meth, evP_attr, evP_len, evP_sum, evP_sumL, evP_toInt, evP_toList, evP_toTup, evP_comp, evP_rng, evAnd_nil, evAnd_cons_, evAs_nil, evAs_cons_, varOf_lit, varOf_var, varOf_bin, varOf_neg, varOf_not, varOf_and, varOf_or, varOf_ite, varOf_list, varOf_tup, varOf_cmp, varOf_cmp2, varOf_idx, varOf_sl, varOf_rev, varOf_call, varOf_meth, varOf_attr, varOf_len, varOf_sum, varOf_sumL, varOf_toInt, varOf_toList, varOf_toTup, varOf_comp, varOf_rng, valAt, evDs_nil, evDs_cons_, datAt, ownXs, hne, idxD_1, idxD_2, hgl, hg, binD_1, binD_2, binD_3, binD_4, binD_5, binD_6, binD_7, binD_8, hcln, flat, hss, hfl2, q1]
    | false =>
      rw [hj] at hg
      simp [bodySplit, rL_nil, rL_cons_, rS_asg, rS_unp, rS_own, rS_own2, rS_aug, rS_ret, rS_ite, rS_for1, rS_whl, rS_push, rS_ext, rS_err, rS_drop, rS_forE, rS_forZ, rS_setL, evP_lit, evP_var, evP_bin, evP_neg, evP_not, evP_and, evP_or, evP_ite, evP_list, evP_tup, evP_cmp, evP_cmp2, evP_idx, evP_sl, evP_rev, evP_call, evP_meth, evP_attr, evP_len, evP_sum, evP_sumL, evP_toInt, evP_toList, evP_toTup, evP_comp, evP_rng, evAnd_nil, evAnd_cons_, evAs_nil, evAs_cons_, varOf_lit, varOf_var, varOf_bin, varOf_neg, varOf_not, varOf_and, varOf_or, varOf_ite, varOf_list, varOf_tup, varOf_cmp, varOf_cmp2, varOf_idx, varOf_sl, varOf_rev, varOf_call, varOf_meth, varOf_attr, varOf_len, varOf_sum, varOf_sumL, varOf_toInt, varOf_toList, varOf_toTup, varOf_comp, varOf_rng, valAt, evDs_nil, evDs_cons_, datAt, ownXs, hne, idxD_1, idxD_2, hgl, hg, binD_1, binD_2, binD_3, binD_4, binD_5, binD_6, binD_7, binD_8, hcln, flat, flatAll, q2]

theorem split_go {way : Nat} {row : List Int} (hw : way < 3) (n : Nat) : ∀ (l : List Int) (found : List (List Int)) (X : Option V), OkF found → (∀ c ∈ l, c ∈ sorts) → found.flatten.length + l.length < 1000 → ∃ X',
    forGo (fun d ρ => rL (Γs (n + 3)) 2 bodySplit (ρ.set 3 (some (.dat d)))) (D l) [some (.dat (.list (D row))), some (tabOf way), some (.dat (.list (TT found))), X, none, none, none] = some (.nxt [some (.dat (.list (D row))), some (tabOf way), some (.dat (.list (TT (l.foldl stepL found)))), X', none, none, none])
  | [], found, X, _, _, _ => ⟨X, rfl⟩
  | c :: l, found, X, o, hs, hl => by
    have hc := hs c (List.mem_cons_self ..)
    simp only [List.length_cons] at hl
    obtain ⟨X', h⟩ := split_go hw n l (stepL found c) (some (.dat (.int c))) (o.step hc) (fun x hx => hs x (List.mem_cons_of_mem _ hx)) (by rw [step_flat, List.length_append]; simp only [List.length_cons, List.length_nil]; omega)
    refine ⟨X', ?_⟩
    have hb := split_body (row := row) hw o hc (by omega) n
    simp only [List.map_cons, forGo, List.set_cons_succ, List.set_cons_zero, hb, List.foldl_cons]
    exact h

theorem g142 {way : Nat} {row : List Int} (hw : way < 3) (hs : ∀ c ∈ row, c ∈ sorts) (hl : row.length < 1000) (n : Nat) : Γs (n + 4) 142 [.dat (.list (D row)), tabOf way] = some (.list (TT (splitL row))) := by
  refine Γs_ret (ms := ms_split) (ow := 2) (j := 5) (ar := 2) (by kernel_rfl) rfl ?_
  obtain ⟨X', h⟩ := split_go (row := row) hw n row [] none (fun _ h => by cases h) hs (by simpa using hl)
  show rL _ 2 (.own :: .for1 3 (.var 0) bodySplit :: [.ret (.var 2)]) _ = _
  rw [rL_nxt (ρ' := [some (.dat (.list (D row))), some (tabOf way), some (.dat (.list (TT []))), none, none, none, none]) (by simp [rS_asg, rS_unp, rS_own, rS_own2, rS_aug, rS_ret, rS_ite, rS_for1, rS_whl, rS_push, rS_ext, rS_err, rS_drop, rS_forE, rS_forZ, rS_setL])]
  rw [rL_nxt (ρ' := [some (.dat (.list (D row))), some (tabOf way), some (.dat (.list (TT (splitL row)))), X', none, none, none]) (by rw [rS_for1]; simp only [evP_lit, evP_var, evP_bin, evP_neg, evP_not, evP_and, evP_or, evP_ite, evP_list, evP_tup, evP_cmp, evP_cmp2, evP_idx, evP_sl, evP_rev, evP_call, evP_meth, evP_attr, evP_len, evP_sum, evP_sumL, evP_toInt, evP_toList, evP_toTup, evP_comp, evP_rng, datAt, items_1, items_2, List.getElem?_cons_zero]; exact h)]
  exact rL_ret rfl
end Mine
end

section
open PySem PyProof.Rows PySem.W
set_option Elab.async false
set_option linter.unusedVariables false
set_option linter.unusedSimpArgs false
set_option maxRecDepth 100000
namespace Mine

theorem cw_tk {way : Nat} {cl : List Int} (o : Ok cl) : tkL (wideOf way) cl = cwL way cl := by
  have e1 : (wOf way (fst cl) == 2) = ((wideOf way).contains (fst cl) && !mk (fst cl)) := by
    unfold wOf
    cases mk (fst cl) <;> cases (wideOf way).contains (fst cl) <;> simp
  have e2 : decide (1 < (cl.filter reg).length) = ((cl.filter reg).length == 2) := by
    have := o.two
    rw [Bool.eq_iff_iff]; simp only [decide_eq_true_eq, beq_iff_eq]; omega
  unfold cwL tkL
  rw [e1, e2]
  cases (wideOf way).contains (fst cl) && !mk (fst cl) <;> cases ((cl.filter reg).length == 2) <;> cases pic (fst cl) <;> cases cl.contains 65039 <;> simp

noncomputable def at' (row : List Int) (i : Nat) : Int := row[i]?.getD 0
noncomputable def begL (row : List Int) (i : Nat) : Bool := match (splitL (row.take i)).getLast? with
  | none => true
  | some cl => !lawJoin cl (at' row i)
noncomputable def sub (row : List Int) (j i : Nat) : List Int := (row.drop j).take (i - j)

theorem take_succ' {row : List Int} {i : Nat} (h : i < row.length) : row.take (i + 1) = row.take i ++ [at' row i] := by
  rw [List.take_add_one]; simp [at', h]
theorem at_mem {row : List Int} {i : Nat} (h : i < row.length) : at' row i ∈ row := by
  simp [at', h]
theorem sub_snoc {row : List Int} {j i : Nat} (hj : j ≤ i) (h : i < row.length) : sub row j (i + 1) = sub row j i ++ [at' row i] := by
  unfold sub
  rw [show i + 1 - j = (i - j) + 1 by omega, List.take_add_one]
  simp [at', show j + (i - j) = i by omega, h]
theorem sub_self (row : List Int) (j : Nat) : sub row j j = [] := by simp [sub]

theorem start {row : List Int} (hs : ∀ c ∈ row, c ∈ sorts) : ∀ i, 0 < i → i ≤ row.length → ∃ a cl j, splitL (row.take i) = a ++ [cl] ∧ j < i ∧ begL row j = true ∧ (∀ k, j < k → k < i → begL row k = false) ∧ cl = sub row j i
  | 0, h, _ => absurd h (Nat.lt_irrefl _)
  | 1, _, h => by
    have h0 : (0 : Nat) < row.length := by omega
    refine ⟨[], [at' row 0], 0, ?_, by omega, rfl, fun k h1 h2 => by omega, ?_⟩
    · rw [take_succ' h0]; rfl
    · rw [sub_snoc (Nat.le_refl _) h0, sub_self]; rfl
  | i + 2, _, h => by
    obtain ⟨a, cl, j, h1, h2, h3, h4, h5⟩ := start hs (i + 1) (by omega) (by omega)
    have hlt : i + 1 < row.length := by omega
    have ok : OkF (splitL (row.take (i + 1))) := splitL_ok fun c hc => hs c (List.mem_of_mem_take hc)
    have okcl : Ok cl := ok cl (by rw [h1]; simp)
    have hb : begL row (i + 1) = !lawJoin cl (at' row (i + 1)) := by unfold begL; rw [h1]; simp
    rw [take_succ' hlt, split_snoc, h1, stepL_snoc, joins_law okcl (hs _ (at_mem hlt))]
    cases hj : lawJoin cl (at' row (i + 1)) with
    | true =>
      refine ⟨a, cl ++ [at' row (i + 1)], j, rfl, by omega, h3, fun k k1 k2 => ?_, ?_⟩
      · by_cases hk : k = i + 1
        · subst hk; rw [hb, hj]; rfl
        · exact h4 k k1 (by omega)
      · rw [sub_snoc (by omega) hlt, ← h5]
    | false =>
      refine ⟨a ++ [cl], [at' row (i + 1)], i + 1, by simp, by omega, by rw [hb, hj]; rfl, fun k k1 k2 => by omega, ?_⟩
      rw [sub_snoc (Nat.le_refl _) hlt, sub_self]; rfl

theorem filt_range (p : Nat → Bool) (j : Nat) (hj : p j = true) : ∀ d, (∀ k, j < k → k < j + 1 + d → p k = false) → (List.range (j + 1 + d)).filter p = (List.range j).filter p ++ [j]
  | 0, _ => by rw [Nat.add_zero, List.range_succ, List.filter_append]; simp [hj]
  | d + 1, h => by
    rw [← Nat.add_assoc, List.range_succ, List.filter_append, filt_range p j hj d fun k h1 h2 => h k h1 (by omega)]
    simp [h (j + 1 + d) (by omega) (by omega)]

noncomputable def partsOf (row : List Int) (pl : List Nat) : List (List Int) := (List.range (pl.length - 1)).map fun k => sub row (pl.getD k 0) (pl.getD (k + 1) 0)
theorem parts_snoc (row : List Int) (ps : List Nat) (j e : Nat) : partsOf row (ps ++ [j] ++ [e]) = partsOf row (ps ++ [j]) ++ [sub row j e] := by
  unfold partsOf
  simp only [List.length_append, List.length_cons, List.length_nil, Nat.zero_add, Nat.add_sub_cancel]
  rw [List.range_succ, List.map_append]
  congr 1
  · refine List.map_congr_left fun k hk => ?_
    have hk := List.mem_range.mp hk
    simp only [List.getD_eq_getElem?_getD]
    rw [List.getElem?_append_left (by simp; omega), List.getElem?_append_left (i := k + 1) (by simp; omega)]
  · simp

theorem parts_split {row : List Int} (hs : ∀ c ∈ row, c ∈ sorts) : ∀ i, i ≤ row.length → partsOf row ((List.range i).filter (begL row) ++ [i]) = splitL (row.take i)
  | 0, _ => rfl
  | i + 1, h => by
    have ih := parts_split hs i (by omega)
    have hlt : i < row.length := by omega
    rw [take_succ' hlt, split_snoc]
    by_cases h0 : i = 0
    · subst h0
      show partsOf row ((List.range 1).filter (begL row) ++ [1]) = [[at' row 0]]
      have : (List.range 1).filter (begL row) = [] ++ [0] := rfl
      rw [this, parts_snoc, sub_snoc (Nat.le_refl _) hlt, sub_self]
      rfl
    · obtain ⟨a, cl, j, h1, h2, h3, h4, h5⟩ := start hs i (by omega) (by omega)
      have ok : OkF (splitL (row.take i)) := splitL_ok fun c hc => hs c (List.mem_of_mem_take hc)
      have okcl : Ok cl := ok cl (by rw [h1]; simp)
      have hb : begL row i = !lawJoin cl (at' row i) := by unfold begL; rw [h1]; simp
      rw [h1, stepL_snoc, joins_law okcl (hs _ (at_mem hlt)), List.range_succ, List.filter_append]
      cases hj : lawJoin cl (at' row i) with
      | true =>
        obtain ⟨d, hd⟩ : ∃ d, i = j + 1 + d := ⟨i - (j + 1), by omega⟩
        have hf := filt_range (begL row) j h3 d fun k k1 k2 => h4 k k1 (by omega)
        rw [← hd] at hf
        rw [hf, parts_snoc, h1] at ih
        obtain ⟨e1, e2⟩ := List.append_inj' ih rfl
        rw [hf]
        have hbf : List.filter (begL row) [i] = [] := by simp [hb, hj]
        rw [hbf, List.append_nil, parts_snoc, e1, sub_snoc (by omega) hlt, ← h5]
        rfl
      | false =>
        have hbf : List.filter (begL row) [i] = [i] := by simp [hb, hj]
        rw [hbf, parts_snoc, ih, h1, sub_snoc (Nat.le_refl _) hlt, sub_self]
        rfl
end Mine
end

section
open PySem PyProof.Rows PySem.W
set_option Elab.async false
set_option linter.unusedVariables false
set_option linter.unusedSimpArgs false
set_option maxRecDepth 100000
namespace Mine

theorem get_at {row : List Int} {i : Nat} (h : i < row.length) : pyGet (D row) (i : Int) = some (.int (at' row i)) := by
  simp [pyGet, at', h]
theorem clip_nat {n i : Nat} (h : i ≤ n) : clipAt n (i : Int) = i := by
  have := clipAt_cast n (i : Int)
  rw [if_neg (by omega)] at this
  omega
theorem pySl_sub {row : List Int} {j i : Nat} (hj : j ≤ i) (h : i ≤ row.length) : pySl (D row) (some (j : Int)) (some (i : Int)) = D (sub row j i) := by
  simp only [pySl, Option.elim, D, List.length_map, clip_nat h, clip_nat (Nat.le_trans hj h), sub, List.map_take, List.map_drop]
theorem sub_len {row : List Int} {j i : Nat} (h : i ≤ row.length) : (sub row j i).length = i - j := by
  simp [sub]; omega
theorem sub_lst {row : List Int} {j i : Nat} (hj : j ≤ i) (h : i < row.length) : lst (sub row j (i + 1)) = at' row i := by
  rw [sub_snoc hj h, lst_snoc]
theorem sub_fst {row : List Int} {j i : Nat} (hj : j < i) (h : i ≤ row.length) : fst (sub row j i) = at' row j := by
  unfold fst sub at'
  rw [List.head?_take, if_neg (by omega), List.head?_drop]
theorem sub_bare {row : List Int} {j p : Nat} (hj : j ≤ p) (h : p < row.length) : bareL (sub row j (p + 1)) = if at' row p = 65039 ∧ j < p then at' row (p - 1) else at' row p := by
  unfold bareL
  rw [sub_lst hj h, sub_len (by omega), sub_snoc hj h]
  by_cases h1 : j < p
  · rw [List.dropLast_concat]
    obtain ⟨q, rfl⟩ : ∃ q, p = q + 1 := ⟨p - 1, by omega⟩
    rw [sub_lst (by omega) (by omega)]
    by_cases h2 : at' row (q + 1) = 65039
    · simp [h1, h2]; omega
    · simp [h2]
  · have : p = j := by omega
    subst this
    simp

theorem notin_regs (cl : List Int) : cmpD .notin (.list (D cl)) (.list [.list [.int 127462], .list [.int 127487]]) = some (!(cl == [127462] || cl == [127487])) := by
  have e1 := eqvAll_D [127462] cl
  have e2 := eqvAll_D [127487] cl
  simp only [D, List.map_cons, List.map_nil] at e1 e2
  have hd := depthAll_D cl
  simp only [D] at hd
  simp only [cmpD_1, cmpD_2, cmpD_3, cmpD_4, cmpD_5, cmpD_6, cmpD_7, cmpD_8, cmpD_9, PyData.depth, PyData.depthAll, D, hd, List.any_cons, List.any_nil, PyData.eqv, e1, e2, Bool.or_false]
  rw [Bool.beq_comm (a := [127462]), Bool.beq_comm (a := [127487])]
  simp

noncomputable abbrev bodyWhl : List MS := [.asg 3 (.bin .sub (.var 3) (.lit (.int 1)))]

theorem begins_whl {Γ : Ctab} {row : List Int} {b : Nat → Bool} {p j : Nat} {c : PyData} {X : List (Option V)} : ∀ (k fuel : Nat), k < fuel → b j = true → (∀ i, j < i → i ≤ j + k → b i = false) → (∀ i, i ≤ j + k → Γ 198 [.dat (.list (D row)), .dat (.int (i : Int))] = some (.bool (b i))) →
    whlGo (fun ρ => boolD (evP Γ ρ (.not (.call 198 [.var 0, .var 3])))) (fun ρ => rL Γ 99 bodyWhl ρ) fuel (some (.dat (.list (D row))) :: some (.dat (.int (p : Int))) :: some (.dat c) :: some (.dat (.int ((j + k : Nat) : Int))) :: X)
      = some (.nxt (some (.dat (.list (D row))) :: some (.dat (.int (p : Int))) :: some (.dat c) :: some (.dat (.int (j : Int))) :: X))
  | k, 0, h, _, _, _ => absurd h (Nat.not_lt_zero _)
  | 0, fuel + 1, _, hj, _, hg => by
    have := hg j (by omega)
    rw [hj] at this
    rw [whlGo]
    simp [evP_lit, evP_var, evP_bin, evP_neg, evP_not, evP_and, evP_or, evP_ite, evP_list, evP_tup, evP_cmp, evP_cmp2, evP_idx, evP_sl, evP_rev, evP_call, evP_meth, evP_attr, evP_len, evP_sum, evP_sumL, evP_toInt, evP_toList, evP_toTup, evP_comp, evP_rng, evAs_nil, evAs_cons_, varOf_lit, varOf_var, varOf_bin, varOf_neg, varOf_not, varOf_and, varOf_or, varOf_ite, varOf_list, varOf_tup, varOf_cmp, varOf_cmp2, varOf_idx, varOf_sl, varOf_rev, varOf_call, varOf_meth, varOf_attr, varOf_len, varOf_sum, varOf_sumL, varOf_toInt, varOf_toList, varOf_toTup, varOf_comp, varOf_rng, valAt, this, boolD]
  | k + 1, fuel + 1, h, hj, hb, hg => by
    have h1 := hg (j + (k + 1)) (Nat.le_refl _)
    rw [hb _ (by omega) (Nat.le_refl _)] at h1
    have ih := begins_whl (X := X) (c := c) (p := p) k fuel (by omega) hj (fun i a b => hb i a (by omega)) (fun i a => hg i (by omega))
    rw [whlGo]
    have e : ((j + (k + 1) : Nat) : Int) - 1 = ((j + k : Nat) : Int) := by omega
    have s1 : boolD (evP Γ (some (.dat (.list (D row))) :: some (.dat (.int (p : Int))) :: some (.dat c) :: some (.dat (.int ((j + (k + 1) : Nat) : Int))) :: X) (.not (.call 198 [.var 0, .var 3]))) = some true := by
      simp only [evP_lit, evP_var, evP_bin, evP_neg, evP_not, evP_and, evP_or, evP_ite, evP_list, evP_tup, evP_cmp, evP_cmp2, evP_idx, evP_sl, evP_rev, evP_call, evP_meth, evP_attr, evP_len, evP_sum, evP_sumL, evP_toInt, evP_toList, evP_toTup, evP_comp, evP_rng, evAs_nil, evAs_cons_, varOf_lit, varOf_var, varOf_bin, varOf_neg, varOf_not, varOf_and, varOf_or, varOf_ite, varOf_list, varOf_tup, varOf_cmp, varOf_cmp2, varOf_idx, varOf_sl, varOf_rev, varOf_call, varOf_meth, varOf_attr, varOf_len, varOf_sum, varOf_sumL, varOf_toInt, varOf_toList, varOf_toTup, varOf_comp, varOf_rng, valAt, List.getElem?_cons_zero, List.getElem?_cons_succ, h1, boolD, Bool.not_false]
    have s2 : rL Γ 99 bodyWhl (some (.dat (.list (D row))) :: some (.dat (.int (p : Int))) :: some (.dat c) :: some (.dat (.int ((j + (k + 1) : Nat) : Int))) :: X) = some (.nxt (some (.dat (.list (D row))) :: some (.dat (.int (p : Int))) :: some (.dat c) :: some (.dat (.int ((j + k : Nat) : Int))) :: X)) := by
      rw [rL_asg (by decide) (d := .int ((j + k : Nat) : Int)) (by simp only [evP_lit, evP_var, evP_bin, evP_neg, evP_not, evP_and, evP_or, evP_ite, evP_list, evP_tup, evP_cmp, evP_cmp2, evP_idx, evP_sl, evP_rev, evP_call, evP_meth, evP_attr, evP_len, evP_sum, evP_sumL, evP_toInt, evP_toList, evP_toTup, evP_comp, evP_rng, datAt, List.getElem?_cons_zero, List.getElem?_cons_succ, binD_1, binD_2, binD_3, binD_4, binD_5, binD_6, binD_7, binD_8, e])]
      rfl
    simp only [s1, s2]
    exact ih

theorem g198 {row : List Int} (hs : ∀ c ∈ row, c ∈ sorts) (hl : row.length < 1000) : ∀ (i : Nat), i < row.length → ∀ n, Γs (n + i + 1) 198 [.dat (.list (D row)), .dat (.int (i : Int))] = some (.bool (begL row i)) := by
  intro i
  induction i using Nat.strongRecOn with
  | ind i ih =>
  intro hi n
  refine Γs_ret (ms := ms_begins) (ow := 99) (j := 6) (ar := 2) (by kernel_rfl) rfl ?_
  show rL (Γs (n + i)) 99 ms_begins [some (.dat (.list (D row))), some (.dat (.int (i : Int))), none, none, none, none, none, none] = _
  have hcode := get_at hi
  rw [ms_begins, rL_asg (by decide) (d := .int (at' row i)) (by simp [evP_lit, evP_var, evP_bin, evP_neg, evP_not, evP_and, evP_or, evP_ite, evP_list, evP_tup, evP_cmp, evP_cmp2, evP_idx, evP_sl, evP_rev, evP_call, evP_meth, evP_attr, evP_len, evP_sum, evP_sumL, evP_toInt, evP_toList, evP_toTup, evP_comp, evP_rng, datAt, idxD_1, idxD_2, hcode])]
  simp only [List.set_cons_succ, List.set_cons_zero]
  have hc := hs _ (at_mem hi)
  match i, hi, ih, hcode, hc with
  | 0, hi, ih, hcode, hc =>
    rw [rL_if_t (c := true) (by simp [evP_lit, evP_var, evP_bin, evP_neg, evP_not, evP_and, evP_or, evP_ite, evP_list, evP_tup, evP_cmp, evP_cmp2, evP_idx, evP_sl, evP_rev, evP_call, evP_meth, evP_attr, evP_len, evP_sum, evP_sumL, evP_toInt, evP_toList, evP_toTup, evP_comp, evP_rng, datAt, cmpD_1, cmpD_2, cmpD_3, cmpD_4, cmpD_5, cmpD_6, cmpD_7, cmpD_8, cmpD_9, PyData.depth, PyData.eqv]) rfl (d := .bool true) (by simp [evP_lit, evP_var, evP_bin, evP_neg, evP_not, evP_and, evP_or, evP_ite, evP_list, evP_tup, evP_cmp, evP_cmp2, evP_idx, evP_sl, evP_rev, evP_call, evP_meth, evP_attr, evP_len, evP_sum, evP_sumL, evP_toInt, evP_toList, evP_toTup, evP_comp, evP_rng])]
    rfl
  | p + 1, hi, ih, hcode, hc =>
  obtain ⟨a, cl, j, h1, h2, h3, h4, h5⟩ := start hs (p + 1) (by omega) (by omega)
  have hb : begL row (p + 1) = !lawJoin cl (at' row (p + 1)) := by unfold begL; rw [h1]; simp
  generalize hcd : at' row (p + 1) = c at *
  rw [rL_if_f (c := false) (by simp [evP_lit, evP_var, evP_bin, evP_neg, evP_not, evP_and, evP_or, evP_ite, evP_list, evP_tup, evP_cmp, evP_cmp2, evP_idx, evP_sl, evP_rev, evP_call, evP_meth, evP_attr, evP_len, evP_sum, evP_sumL, evP_toInt, evP_toList, evP_toTup, evP_comp, evP_rng, datAt, cmpD_1, cmpD_2, cmpD_3, cmpD_4, cmpD_5, cmpD_6, cmpD_7, cmpD_8, cmpD_9, PyData.depth, PyData.eqv]; omega) rfl]
  have v2 : ∀ X : List (Option V), evP (Γs (n + (p + 1))) (some (.dat (.list (D row))) :: some (.dat (.int ((p + 1 : Nat) : Int))) :: some (.dat (.int c)) :: X) (.var 2) = some (.int c) := fun X => rfl
  have bmk : ∀ X : List (Option V), evP (Γs (n + (p + 1))) (some (.dat (.list (D row))) :: some (.dat (.int ((p + 1 : Nat) : Int))) :: some (.dat (.int c)) :: X) (.cmp .isin (.var 2) (.lit (.tuple [.int 769, .int 8205, .int 65039, .int 8419]))) = some (.bool (mk c)) := fun X =>
    ev_cmp (v2 X) (y := .tuple [.int 769, .int 8205, .int 65039, .int 8419]) (by simp [evP_lit, evP_var, evP_bin, evP_neg, evP_not, evP_and, evP_or, evP_ite, evP_list, evP_tup, evP_cmp, evP_cmp2, evP_idx, evP_sl, evP_rev, evP_call, evP_meth, evP_attr, evP_len, evP_sum, evP_sumL, evP_toInt, evP_toList, evP_toTup, evP_comp, evP_rng]) (isin_mk _)
  by_cases hm : mk c = true
  · rw [rL_if_t (bmk _) hm (d := .bool false) (by simp [evP_lit, evP_var, evP_bin, evP_neg, evP_not, evP_and, evP_or, evP_ite, evP_list, evP_tup, evP_cmp, evP_cmp2, evP_idx, evP_sl, evP_rev, evP_call, evP_meth, evP_attr, evP_len, evP_sum, evP_sumL, evP_toInt, evP_toList, evP_toTup, evP_comp, evP_rng]), hb]
    simp [lawJoin, hm]
  rw [rL_if_f (bmk _) (by simpa using hm)]
  rw [rL_asg (by decide) (d := .int ((p : Nat) : Int)) (by simp only [evP_lit, evP_var, evP_bin, evP_neg, evP_not, evP_and, evP_or, evP_ite, evP_list, evP_tup, evP_cmp, evP_cmp2, evP_idx, evP_sl, evP_rev, evP_call, evP_meth, evP_attr, evP_len, evP_sum, evP_sumL, evP_toInt, evP_toList, evP_toTup, evP_comp, evP_rng, datAt, List.getElem?_cons_zero, List.getElem?_cons_succ, binD_1, binD_2, binD_3, binD_4, binD_5, binD_6, binD_7, binD_8]; congr 2; omega)]
  simp only [List.set_cons_succ, List.set_cons_zero]
  obtain ⟨k, hk⟩ : ∃ k, p = j + k := ⟨p - j, by omega⟩
  have hw := begins_whl (Γ := Γs (n + (p + 1))) (row := row) (b := begL row) (p := p + 1) (j := j) (c := .int c) (X := [none, none, none, none]) k 1000 (by omega) h3 (fun i a b => h4 i a (by omega)) fun i hi' => by
    have := ih i (by omega) (by omega) (n + (p - i))
    rwa [show n + (p - i) + i + 1 = n + (p + 1) by omega] at this
  rw [← hk] at hw
  rw [rL_nxt (by rw [rS_whl]; exact hw)]
  generalize hρ : ([some (.dat (.list (D row))), some (.dat (.int ((p + 1 : Nat) : Int))), some (.dat (.int c)), some (.dat (.int (j : Int))), none, none, none, none] : Env0) = ρ
  have w2 : evP (Γs (n + (p + 1))) ρ (.var 2) = some (.int c) := by subst hρ; rfl
  have e1 : (((p + 1 : Nat) : Int)) - 1 = (p : Int) := by omega
  have s1 : evP (Γs (n + (p + 1))) ρ (.bin .sub (.var 1) (.lit (.int 1))) = some (.int (p : Int)) := by
    subst hρ; simp only [evP_lit, evP_var, evP_bin, evP_neg, evP_not, evP_and, evP_or, evP_ite, evP_list, evP_tup, evP_cmp, evP_cmp2, evP_idx, evP_sl, evP_rev, evP_call, evP_meth, evP_attr, evP_len, evP_sum, evP_sumL, evP_toInt, evP_toList, evP_toTup, evP_comp, evP_rng, datAt, List.getElem?_cons_zero, List.getElem?_cons_succ, binD_1, binD_2, binD_3, binD_4, binD_5, binD_6, binD_7, binD_8, e1]
  have gp : evP (Γs (n + (p + 1))) ρ (.idx (.var 0) (.bin .sub (.var 1) (.lit (.int 1)))) = some (.int (at' row p)) := by
    have := get_at (row := row) (i := p) (by omega)
    subst hρ; simp only [evP_lit, evP_var, evP_bin, evP_neg, evP_not, evP_and, evP_or, evP_ite, evP_list, evP_tup, evP_cmp, evP_cmp2, evP_idx, evP_sl, evP_rev, evP_call, evP_meth, evP_attr, evP_len, evP_sum, evP_sumL, evP_toInt, evP_toList, evP_toTup, evP_comp, evP_rng, datAt, List.getElem?_cons_zero, List.getElem?_cons_succ, binD_1, binD_2, binD_3, binD_4, binD_5, binD_6, binD_7, binD_8, e1, idxD_1, idxD_2, this]
  have gj : evP (Γs (n + (p + 1))) ρ (.idx (.var 0) (.var 3)) = some (.int (at' row j)) := by
    have := get_at (row := row) (i := j) (by omega)
    subst hρ; simp only [evP_lit, evP_var, evP_bin, evP_neg, evP_not, evP_and, evP_or, evP_ite, evP_list, evP_tup, evP_cmp, evP_cmp2, evP_idx, evP_sl, evP_rev, evP_call, evP_meth, evP_attr, evP_len, evP_sum, evP_sumL, evP_toInt, evP_toList, evP_toTup, evP_comp, evP_rng, datAt, List.getElem?_cons_zero, List.getElem?_cons_succ, idxD_1, idxD_2, this]
  have hlst : lst cl = at' row p := by rw [h5]; exact sub_lst (by omega) (by omega)
  have hfst : fst cl = at' row j := by rw [h5]; exact sub_fst (by omega) (by omega)
  have hbare : bareL cl = if at' row p = 65039 ∧ j < p then at' row (p - 1) else at' row p := by rw [h5]; exact sub_bare (by omega) (by omega)
  have bpic : evP (Γs (n + (p + 1))) ρ (.cmp .isin (.var 2) (.lit (.tuple [.int 128000, .int 10084]))) = some (.bool (pic c)) := ev_cmp w2 (y := .tuple [.int 128000, .int 10084]) (by simp [evP_lit, evP_var, evP_bin, evP_neg, evP_not, evP_and, evP_or, evP_ite, evP_list, evP_tup, evP_cmp, evP_cmp2, evP_idx, evP_sl, evP_rev, evP_call, evP_meth, evP_attr, evP_len, evP_sum, evP_sumL, evP_toInt, evP_toList, evP_toTup, evP_comp, evP_rng]) (isin_pic _)
  by_cases hp : pic c = true
  · rw [rL_if_t bpic hp (ev_or2 (ev_cmp gp (y := .int 8205) (by simp [evP_lit, evP_var, evP_bin, evP_neg, evP_not, evP_and, evP_or, evP_ite, evP_list, evP_tup, evP_cmp, evP_cmp2, evP_idx, evP_sl, evP_rev, evP_call, evP_meth, evP_attr, evP_len, evP_sum, evP_sumL, evP_toInt, evP_toList, evP_toTup, evP_comp, evP_rng]) (cmp_nei ..)) fun _ => ev_cmp gj (y := .tuple [.int 128000, .int 10084]) (by simp [evP_lit, evP_var, evP_bin, evP_neg, evP_not, evP_and, evP_or, evP_ite, evP_list, evP_tup, evP_cmp, evP_cmp2, evP_idx, evP_sl, evP_rev, evP_call, evP_meth, evP_attr, evP_len, evP_sum, evP_sumL, evP_toInt, evP_toList, evP_toTup, evP_comp, evP_rng]) (notin_pic _)), hb]
    simp [lawJoin, hm, hp, hlst, hfst]
    rfl
  rw [rL_if_f bpic (by simpa using hp)]
  have bmod : evP (Γs (n + (p + 1))) ρ (.cmp .eq (.var 2) (.lit (.int 127995))) = some (.bool (c == 127995)) := ev_cmp w2 (y := .int 127995) (by simp [evP_lit, evP_var, evP_bin, evP_neg, evP_not, evP_and, evP_or, evP_ite, evP_list, evP_tup, evP_cmp, evP_cmp2, evP_idx, evP_sl, evP_rev, evP_call, evP_meth, evP_attr, evP_len, evP_sum, evP_sumL, evP_toInt, evP_toList, evP_toTup, evP_comp, evP_rng]) (cmp_eqi ..)
  by_cases hd : c = 127995
  · have hbl : evP (Γs (n + (p + 1))) ρ (.ite (.and [.cmp .eq (.idx (.var 0) (.bin .sub (.var 1) (.lit (.int 1)))) (.lit (.int 65039)), .cmp .gt (.bin .sub (.var 1) (.lit (.int 1))) (.var 3)]) (.idx (.var 0) (.bin .sub (.var 1) (.lit (.int 2)))) (.idx (.var 0) (.bin .sub (.var 1) (.lit (.int 1))))) = some (.int (bareL cl)) := by
      rw [ev_ite (x := at' row p == 65039 && decide (j < p)) (d1 := .int (at' row (p - 1))) (d2 := .int (at' row p)) (ev_and2 (ev_cmp gp (y := .int 65039) (by simp [evP_lit, evP_var, evP_bin, evP_neg, evP_not, evP_and, evP_or, evP_ite, evP_list, evP_tup, evP_cmp, evP_cmp2, evP_idx, evP_sl, evP_rev, evP_call, evP_meth, evP_attr, evP_len, evP_sum, evP_sumL, evP_toInt, evP_toList, evP_toTup, evP_comp, evP_rng]) (cmp_eqi ..)) fun _ => ev_cmp s1 (y := .int (j : Int)) (by subst hρ; rfl) (by simp [cmpD_1, cmpD_2, cmpD_3, cmpD_4, cmpD_5, cmpD_6, cmpD_7, cmpD_8, cmpD_9])) (fun h => ?_) fun _ => gp]
      · rw [hbare]
        by_cases h8 : at' row p = 65039 ∧ j < p
        · rw [if_pos h8]; simp [h8]
        · rw [if_neg h8]
          have : (at' row p == 65039 && decide (j < p)) = false := by
            cases hh : (at' row p == 65039 && decide (j < p)) with
            | false => rfl
            | true => exact absurd (by simpa using hh) h8
          rw [this]; rfl
      · have hjp : j < p := by simp at h; exact h.2
        have e2 : (((p + 1 : Nat) : Int)) - 2 = ((p - 1 : Nat) : Int) := by omega
        have := get_at (row := row) (i := p - 1) (by omega)
        subst hρ; simp only [evP_lit, evP_var, evP_bin, evP_neg, evP_not, evP_and, evP_or, evP_ite, evP_list, evP_tup, evP_cmp, evP_cmp2, evP_idx, evP_sl, evP_rev, evP_call, evP_meth, evP_attr, evP_len, evP_sum, evP_sumL, evP_toInt, evP_toList, evP_toTup, evP_comp, evP_rng, datAt, List.getElem?_cons_zero, List.getElem?_cons_succ, binD_1, binD_2, binD_3, binD_4, binD_5, binD_6, binD_7, binD_8, e2, idxD_1, idxD_2, this]
    rw [rL_out (d := .bool (!pic (bareL cl))), hb]
    · subst hd
      simp [lawJoin, hm, hp]
    · first | rw [rS_ret, bmod] | rw [rS_ite, bmod]
      subst hd
      simp only [beq_self_eq_true]
      rw [rL_asg (by decide) hbl]
      refine rL_ret (ev_cmp (x := .int (bareL cl)) (y := .tuple [.int 128000, .int 10084]) ?_ (by simp [evP_lit, evP_var, evP_bin, evP_neg, evP_not, evP_and, evP_or, evP_ite, evP_list, evP_tup, evP_cmp, evP_cmp2, evP_idx, evP_sl, evP_rev, evP_call, evP_meth, evP_attr, evP_len, evP_sum, evP_sumL, evP_toInt, evP_toList, evP_toTup, evP_comp, evP_rng]) (notin_pic _))
      subst hρ; rfl
  rw [rL_if_f bmod (by simpa using hd)]
  have hsl : evP (Γs (n + (p + 1))) ρ (.sl (.var 0) (.var 3) (.var 1)) = some (.list (D cl)) := by
    have := pySl_sub (row := row) (j := j) (i := p + 1) (by omega) (by omega)
    rw [← h5] at this
    subst hρ; simp only [evP_lit, evP_var, evP_bin, evP_neg, evP_not, evP_and, evP_or, evP_ite, evP_list, evP_tup, evP_cmp, evP_cmp2, evP_idx, evP_sl, evP_rev, evP_call, evP_meth, evP_attr, evP_len, evP_sum, evP_sumL, evP_toInt, evP_toList, evP_toTup, evP_comp, evP_rng, datAt, List.getElem?_cons_zero, List.getElem?_cons_succ, slD, partD_1, partD_2, this]
  have hcp : evP (Γs (n + (p + 1))) ρ (.comp 5 (.list [.var 5]) (.lit (.tuple [.int 127462, .int 127487])) []) = some (.list [.list [.int 127462], .list [.int 127487]]) := by
    subst hρ; simp [evP_lit, evP_var, evP_bin, evP_neg, evP_not, evP_and, evP_or, evP_ite, evP_list, evP_tup, evP_cmp, evP_cmp2, evP_idx, evP_sl, evP_rev, evP_call, evP_meth, evP_attr, evP_len, evP_sum, evP_sumL, evP_toInt, evP_toList, evP_toTup, evP_comp, evP_rng, items_1, items_2, compGo, evAnd_nil, evAnd_cons_, evDs_nil, evDs_cons_, datAt]
  rw [rL_ret (ev_or2 (ev_cmp w2 (y := .tuple [.int 127462, .int 127487]) (by simp [evP_lit, evP_var, evP_bin, evP_neg, evP_not, evP_and, evP_or, evP_ite, evP_list, evP_tup, evP_cmp, evP_cmp2, evP_idx, evP_sl, evP_rev, evP_call, evP_meth, evP_attr, evP_len, evP_sum, evP_sumL, evP_toInt, evP_toList, evP_toTup, evP_comp, evP_rng]) (notin_reg _)) fun _ => ev_cmp hsl hcp (notin_regs _)), hb]
  have hd' : (c == 127995) = false := by simpa using hd
  simp only [lawJoin, hm, hp, hd']
  simp

theorem g203 {row : List Int} (hs : ∀ c ∈ row, c ∈ sorts) (hl : row.length < 1000) (n : Nat) : Γs (n + row.length + 1) 203 [.dat (.list (D row))] = some (.list ((splitL row).map fun cl => .list (D cl))) := by
  refine Γs_ret (ms := ms_parts) (ow := 99) (j := 4) (ar := 1) (by kernel_rfl) rfl ?_
  show rL (Γs (n + row.length)) 99 ms_parts [some (.dat (.list (D row))), none, none, none, none] = _
  let pl := (List.range row.length).filter (begL row) ++ [row.length]
  have hcomp : ∀ l : List Nat, (∀ i ∈ l, i < row.length) → compGo (fun d => evAnd (Γs (n + row.length)) [some (.dat (.list (D row))), none, some (.dat d), none, none] [.call 198 [.var 0, .var 2]]) (fun d => evP (Γs (n + row.length)) [some (.dat (.list (D row))), none, some (.dat d), none, none] (.var 2)) (l.map fun (i : Nat) => PyData.int (i : Int)) = some ((l.filter (begL row)).map fun (i : Nat) => PyData.int (i : Int)) := by
    intro l
    induction l with
    | nil => intro _; rfl
    | cons i l ih =>
      intro h
      have hi := h i (List.mem_cons_self ..)
      have ih := ih fun k hk => h k (List.mem_cons_of_mem _ hk)
      have g := g198 hs hl i hi (n + (row.length - i - 1))
      rw [show n + (row.length - i - 1) + i + 1 = n + row.length by omega] at g
      simp only [List.map_cons, compGo, evAnd_nil, evAnd_cons_, evP_lit, evP_var, evP_bin, evP_neg, evP_not, evP_and, evP_or, evP_ite, evP_list, evP_tup, evP_cmp, evP_cmp2, evP_idx, evP_sl, evP_rev, evP_call, evP_meth, evP_attr, evP_len, evP_sum, evP_sumL, evP_toInt, evP_toList, evP_toTup, evP_comp, evP_rng, evAs_nil, evAs_cons_, varOf_lit, varOf_var, varOf_bin, varOf_neg, varOf_not, varOf_and, varOf_or, varOf_ite, varOf_list, varOf_tup, varOf_cmp, varOf_cmp2, varOf_idx, varOf_sl, varOf_rev, varOf_call, varOf_meth, varOf_attr, varOf_len, varOf_sum, varOf_sumL, varOf_toInt, varOf_toList, varOf_toTup, varOf_comp, varOf_rng, valAt, datAt, List.getElem?_cons_zero, List.getElem?_cons_succ, g] at ih ⊢
      cases hbi : begL row i with
      | true => simp only [ih, List.filter_cons, hbi]; simp
      | false => simp only [ih, List.filter_cons, hbi]; simp
  rw [ms_parts, rL_asg (by decide) (d := .list (pl.map fun (i : Nat) => PyData.int (i : Int)))]
  · simp only [List.set_cons_succ, List.set_cons_zero]
    have hpl : pl.length ≤ row.length + 1 := by
      have := List.length_filter_le (begL row) (List.range row.length)
      rw [List.length_range] at this
      simp only [pl, List.length_append, List.length_cons, List.length_nil]
      omega
    have hpos : 1 ≤ pl.length := by simp [pl]
    have hps := parts_split hs row.length (Nat.le_refl _)
    rw [List.take_length] at hps
    refine rL_ret ?_
    have hrg : evP (Γs (n + row.length)) [some (.dat (.list (D row))), some (.dat (.list (pl.map fun (i : Nat) => PyData.int (i : Int)))), none, none, none] (.rng (.bin .sub (.len (.var 1)) (.lit (.int 1)))) = some (.list ((List.range (pl.length - 1)).map fun (i : Nat) => PyData.int (i : Int))) := by
      have e : ((pl.length : Int) - 1).toNat = pl.length - 1 := by omega
      simp only [evP_lit, evP_var, evP_bin, evP_neg, evP_not, evP_and, evP_or, evP_ite, evP_list, evP_tup, evP_cmp, evP_cmp2, evP_idx, evP_sl, evP_rev, evP_call, evP_meth, evP_attr, evP_len, evP_sum, evP_sumL, evP_toInt, evP_toList, evP_toTup, evP_comp, evP_rng, datAt, List.getElem?_cons_zero, List.getElem?_cons_succ, lenD_1, lenD_2, binD_1, binD_2, binD_3, binD_4, binD_5, binD_6, binD_7, binD_8, List.length_map, e]
      rw [if_pos (by omega)]
    rw [ev_comp hrg rfl (ys := ((List.range (pl.length - 1)).map fun k => PyData.list (D (sub row (pl.getD k 0) (pl.getD (k + 1) 0))))), ← hps]
    · simp [partsOf, pl]
    · refine compGo_map (fun k hk => rfl) fun k hk => ?_
      have hk := List.mem_range.mp hk
      have hmono : pl.getD k 0 ≤ pl.getD (k + 1) 0 ∧ pl.getD (k + 1) 0 ≤ row.length := by
        have hsort : pl.Pairwise (· < ·) := by
          refine List.pairwise_append.mpr ⟨List.Pairwise.filter _ List.pairwise_lt_range, by simp, fun a ha b hb => ?_⟩
          simp at hb; subst hb
          exact List.mem_range.mp (List.mem_filter.mp ha).1
        have hk1 : k < pl.length := by omega
        have hk2 : k + 1 < pl.length := by omega
        have hall : ∀ x ∈ pl, x ≤ row.length := by
          intro x hx
          rcases List.mem_append.mp hx with hx | hx
          · exact Nat.le_of_lt (List.mem_range.mp (List.mem_filter.mp hx).1)
          · simp at hx; omega
        simp only [List.getD_eq_getElem?_getD, List.getElem?_eq_getElem hk1, List.getElem?_eq_getElem hk2, Option.getD_some]
        exact ⟨Nat.le_of_lt (List.pairwise_iff_getElem.mp hsort k (k + 1) hk1 hk2 (by omega)), hall _ (List.getElem_mem hk2)⟩
      have hgt : ∀ q, q < pl.length → pyGet (pl.map fun (i : Nat) => PyData.int (i : Int)) (q : Int) = some (.int ((pl.getD q 0 : Nat) : Int)) := fun q hq => by
        simp [pyGet, hq]
      have e : (k : Int) + 1 = ((k + 1 : Nat) : Int) := by omega
      simp only [List.set_cons_succ, List.set_cons_zero, evP_lit, evP_var, evP_bin, evP_neg, evP_not, evP_and, evP_or, evP_ite, evP_list, evP_tup, evP_cmp, evP_cmp2, evP_idx, evP_sl, evP_rev, evP_call, evP_meth, evP_attr, evP_len, evP_sum, evP_sumL, evP_toInt, evP_toList, evP_toTup, evP_comp, evP_rng, datAt, List.getElem?_cons_zero, List.getElem?_cons_succ, idxD_1, idxD_2, binD_1, binD_2, binD_3, binD_4, binD_5, binD_6, binD_7, binD_8, e, hgt k (by omega), hgt (k + 1) (by omega), slD, partD_1, partD_2, pySl_sub hmono.1 hmono.2]
  · have hrg : evP (Γs (n + row.length)) [some (.dat (.list (D row))), none, none, none, none] (.rng (.len (.var 0))) = some (.list ((List.range row.length).map fun (i : Nat) => PyData.int (i : Int))) := by
      simp only [evP_lit, evP_var, evP_bin, evP_neg, evP_not, evP_and, evP_or, evP_ite, evP_list, evP_tup, evP_cmp, evP_cmp2, evP_idx, evP_sl, evP_rev, evP_call, evP_meth, evP_attr, evP_len, evP_sum, evP_sumL, evP_toInt, evP_toList, evP_toTup, evP_comp, evP_rng, datAt, List.getElem?_cons_zero, List.getElem?_cons_succ, lenD_1, lenD_2, binD_1, binD_2, binD_3, binD_4, binD_5, binD_6, binD_7, binD_8, List.length_map, D, Int.toNat_natCast]
      rw [if_pos (by omega)]
    have hc := ev_comp (k := 2) (elt := .var 2) (test := [.call 198 [.var 0, .var 2]]) hrg rfl (hcomp _ fun i hi => List.mem_range.mp hi)
    have hlen := List.length_filter_le (begL row) (List.range row.length)
    rw [List.length_range] at hlen
    have hl1 : evP (Γs (n + row.length)) [some (.dat (.list (D row))), none, none, none, none] (.list [.len (.var 0)]) = some (.list [.int (row.length : Int)]) := by
      simp [evP_lit, evP_var, evP_bin, evP_neg, evP_not, evP_and, evP_or, evP_ite, evP_list, evP_tup, evP_cmp, evP_cmp2, evP_idx, evP_sl, evP_rev, evP_call, evP_meth, evP_attr, evP_len, evP_sum, evP_sumL, evP_toInt, evP_toList, evP_toTup, evP_comp, evP_rng, evDs_nil, evDs_cons_, datAt, lenD_1, lenD_2]
    rw [evP_bin]
    simp only [hc, hl1, binD_1, binD_2, binD_3, binD_4, binD_5, binD_6, binD_7, binD_8]
    rw [if_pos (by simp only [List.length_map, List.length_cons, List.length_nil]; omega)]
    simp [pl]
end Mine
end

section
open PySem PyProof.Rows PySem.W
set_option Elab.async false
set_option linter.unusedVariables false
set_option linter.unusedSimpArgs false
set_option maxRecDepth 100000
namespace Mine

theorem cw_le (way : Nat) (cl : List Int) : 1 ≤ cwL way cl ∧ cwL way cl ≤ 2 := by
  unfold cwL
  split
  · omega
  split
  · omega
  split <;> omega
theorem small_of {x : Int} (h1 : 0 ≤ x) (h2 : x ≤ 1000) : small x = true := by simp [small]; omega
theorem sumInts_D : ∀ (l : List Int), (∀ x ∈ l, small x = true) → sumInts (D l) = some l.sum
  | [], _ => rfl
  | x :: l, h => by
    have ih := sumInts_D l fun y hy => h y (List.mem_cons_of_mem _ hy)
    simp only [D] at ih
    simp only [D, List.map_cons, sumInts, h x (List.mem_cons_self ..), if_true, ih, List.sum_cons]
    rfl
theorem sum_map_cw (way : Nat) (F : List (List Int)) : ∀ x ∈ F.map (cwL way), small x = true := by
  intro x hx
  obtain ⟨cl, _, rfl⟩ := List.mem_map.mp hx
  have := cw_le way cl
  exact small_of (by omega) (by omega)

theorem g147 {way : Nat} {row : List Int} (hw : way < 3) (hs : ∀ c ∈ row, c ∈ sorts) (hl : row.length < 1000) (n : Nat) : Γs (n + 5) 147 [.dat (.list (D row)), tabOf way] = some (.int ((splitL row).map (cwL way)).sum) := by
  refine Γs_ret (ms := ms_cwid) (ow := 99) (j := 3) (ar := 2) (by kernel_rfl) rfl ?_
  show rL _ 99 ms_cwid [some (.dat (.list (D row))), some (tabOf way), none, none, none] = _
  have e1 := g142 hw hs hl n
  have hok := splitL_ok hs
  have hcomp : evP (Γs (n + 4)) [some (.dat (.list (D row))), some (tabOf way), none, none, none] (.comp 2 (.call 135 [.var 2, .var 1]) (.call 142 [.var 0, .var 1]) []) = some (.list ((splitL row).map fun cl => PyData.int (cwL way cl))) := by
    refine ev_comp (x := .list (TT (splitL row))) (by simp [evP_lit, evP_var, evP_bin, evP_neg, evP_not, evP_and, evP_or, evP_ite, evP_list, evP_tup, evP_cmp, evP_cmp2, evP_idx, evP_sl, evP_rev, evP_call, evP_meth, evP_attr, evP_len, evP_sum, evP_sumL, evP_toInt, evP_toList, evP_toTup, evP_comp, evP_rng, evAs_nil, evAs_cons_, varOf_lit, varOf_var, varOf_bin, varOf_neg, varOf_not, varOf_and, varOf_or, varOf_ite, varOf_list, varOf_tup, varOf_cmp, varOf_cmp2, varOf_idx, varOf_sl, varOf_rev, varOf_call, varOf_meth, varOf_attr, varOf_len, varOf_sum, varOf_sumL, varOf_toInt, varOf_toList, varOf_toTup, varOf_comp, varOf_rng, valAt, e1]) rfl (compGo_map (fun cl hcl => rfl) fun cl hcl => ?_)
    have := g135 hw (hok cl hcl).ne (hok cl hcl).so (n + 1)
    simp only [List.set_cons_succ, List.set_cons_zero, evP_lit, evP_var, evP_bin, evP_neg, evP_not, evP_and, evP_or, evP_ite, evP_list, evP_tup, evP_cmp, evP_cmp2, evP_idx, evP_sl, evP_rev, evP_call, evP_meth, evP_attr, evP_len, evP_sum, evP_sumL, evP_toInt, evP_toList, evP_toTup, evP_comp, evP_rng, evAs_nil, evAs_cons_, varOf_lit, varOf_var, varOf_bin, varOf_neg, varOf_not, varOf_and, varOf_or, varOf_ite, varOf_list, varOf_tup, varOf_cmp, varOf_cmp2, varOf_idx, varOf_sl, varOf_rev, varOf_call, varOf_meth, varOf_attr, varOf_len, varOf_sum, varOf_sumL, varOf_toInt, varOf_toList, varOf_toTup, varOf_comp, varOf_rng, valAt, List.getElem?_cons_zero, List.getElem?_cons_succ]
    exact this
  have hsum := sumInts_D _ (sum_map_cw way (splitL row))
  rw [D, List.map_map] at hsum
  refine rL_ret ?_
  rw [evP_sum]
  simp only [hcomp]
  rw [show sumInts ((splitL row).map fun cl => PyData.int (cwL way cl)) = _ from hsum]
  rfl

/-- the cells of a list of clusters -/
noncomputable def cellsOf (way : Nat) (pen : PyData) (F : List (List Int)) : List PyData :=
  F.flatMap fun cl => .tuple [.tuple (D cl), .int (cwL way cl), pen, .bool false] :: if cwL way cl = 2 then [.tuple [.tuple [], .int 0, pen, .bool false]] else []
theorem cellsOf_len (way : Nat) (pen : PyData) : ∀ F : List (List Int), (cellsOf way pen F).length ≤ 2 * F.length
  | [] => Nat.le_refl _
  | cl :: F => by
    have := cellsOf_len way pen F
    unfold cellsOf at *
    rw [List.flatMap_cons, List.length_append]
    split <;> simp only [List.length_cons, List.length_nil] <;> omega

noncomputable abbrev bodyCells : List MS := [.asg 5 (.call 135 [(.var 4), (.var 2)]), .push (.tup [(.var 4), (.var 5), (.var 1), (.lit (.bool false))]), .ite (.cmp .eq (.var 5) (.lit (.int 2))) [.push (.tup [(.tup []), (.lit (.int 0)), (.var 1), (.lit (.bool false))])] []]

theorem cells_go {way : Nat} {row : PyData} {pen : PyData} (hw : way < 3) (hp : flat pen = true) (n : Nat) : ∀ (F : List (List Int)) (acc : List PyData) (X Y : Option V), OkF F → acc.length + 2 * F.length < 10000 → ∃ X' Y',
    forGo (fun d ρ => rL (Γs (n + 3)) 3 bodyCells (ρ.set 4 (some (.dat d)))) (TT F) [some (.dat row), some (.dat pen), some (tabOf way), some (.dat (.list acc)), X, Y, none, none, none] = some (.nxt [some (.dat row), some (.dat pen), some (tabOf way), some (.dat (.list (acc ++ cellsOf way pen F))), X', Y', none, none, none])
  | [], acc, X, Y, _, _ => ⟨X, Y, by simp [forGo, cellsOf]⟩
  | cl :: F, acc, X, Y, o, hl => by
    have ocl := o cl (List.mem_cons_self ..)
    have g := g135 hw ocl.ne ocl.so n
    have hfl := flat_D cl
    simp only [List.length_cons] at hl
    have q1 : acc.length < 1000000 := by omega
    have q2 : acc.length + 1 < 1000000 := by omega
    by_cases h2 : cwL way cl = 2
    · obtain ⟨X', Y', ih⟩ := cells_go (row := row) hw hp n F (acc ++ [.tuple [.tuple (D cl), .int 2, pen, .bool false], .tuple [.tuple [], .int 0, pen, .bool false]]) (some (.dat (.tuple (D cl)))) (some (.dat (.int 2))) (fun x hx => o x (List.mem_cons_of_mem _ hx)) (by simp; omega)
      refine ⟨X', Y', ?_⟩
      have hb : rL (Γs (n + 3)) 3 bodyCells [some (.dat row), some (.dat pen), some (tabOf way), some (.dat (.list acc)), some (.dat (.tuple (D cl))), Y, none, none, none] = some (.nxt [some (.dat row), some (.dat pen), some (tabOf way), some (.dat (.list (acc ++ [.tuple [.tuple (D cl), .int 2, pen, .bool false], .tuple [.tuple [], .int 0, pen, .bool false]]))), some (.dat (.tuple (D cl))), some (.dat (.int 2)), none, none, none]) := by
        rw [h2] at g
        unfold tabOf at *
        simp [bodyCells, rL_nil, rL_cons_, rS_asg, rS_unp, rS_own, rS_own2, rS_aug, rS_ret, rS_ite, rS_for1, rS_whl, rS_push, rS_ext, rS_err, rS_drop, rS_forE, rS_forZ, rS_setL, evP_lit, evP_var, evP_bin, evP_neg, evP_not, evP_and, evP_or, evP_ite, evP_list, evP_tup, evP_cmp, evP_cmp2, evP_idx, evP_sl, evP_rev, evP_call, evP_meth, evP_attr, evP_len, evP_sum, evP_sumL, evP_toInt, evP_toList, evP_toTup, evP_comp, evP_rng, evAs_nil, evAs_cons_, evDs_nil, evDs_cons_, varOf_lit, varOf_var, varOf_bin, varOf_neg, varOf_not, varOf_and, varOf_or, varOf_ite, varOf_list, varOf_tup, varOf_cmp, varOf_cmp2, varOf_idx, varOf_sl, varOf_rev, varOf_call, varOf_meth, varOf_attr, varOf_len, varOf_sum, varOf_sumL, varOf_toInt, varOf_toList, varOf_toTup, varOf_comp, varOf_rng, valAt, datAt, ownXs, g, flat, flatAll, hfl, hp, q1, q2, cmpD_1, cmpD_2, cmpD_3, cmpD_4, cmpD_5, cmpD_6, cmpD_7, cmpD_8, cmpD_9, PyData.depth, PyData.eqv]
      simp only [TT, List.map_cons, forGo, List.set_cons_succ, List.set_cons_zero, hb]
      rw [ih]
      simp [cellsOf, h2]
    · obtain ⟨X', Y', ih⟩ := cells_go (row := row) hw hp n F (acc ++ [.tuple [.tuple (D cl), .int (cwL way cl), pen, .bool false]]) (some (.dat (.tuple (D cl)))) (some (.dat (.int (cwL way cl)))) (fun x hx => o x (List.mem_cons_of_mem _ hx)) (by simp; omega)
      refine ⟨X', Y', ?_⟩
      have h2' : (cwL way cl == 2) = false := by simpa using h2
      have hb : rL (Γs (n + 3)) 3 bodyCells [some (.dat row), some (.dat pen), some (tabOf way), some (.dat (.list acc)), some (.dat (.tuple (D cl))), Y, none, none, none] = some (.nxt [some (.dat row), some (.dat pen), some (tabOf way), some (.dat (.list (acc ++ [.tuple [.tuple (D cl), .int (cwL way cl), pen, .bool false]]))), some (.dat (.tuple (D cl))), some (.dat (.int (cwL way cl))), none, none, none]) := by
        unfold tabOf at *
        simp [bodyCells, rL_nil, rL_cons_, rS_asg, rS_unp, rS_own, rS_own2, rS_aug, rS_ret, rS_ite, rS_for1, rS_whl, rS_push, rS_ext, rS_err, rS_drop, rS_forE, rS_forZ, rS_setL, evP_lit, evP_var, evP_bin, evP_neg, evP_not, evP_and, evP_or, evP_ite, evP_list, evP_tup, evP_cmp, evP_cmp2, evP_idx, evP_sl, evP_rev, evP_call, evP_meth, evP_attr, evP_len, evP_sum, evP_sumL, evP_toInt, evP_toList, evP_toTup, evP_comp, evP_rng, evAs_nil, evAs_cons_, evDs_nil, evDs_cons_, varOf_lit, varOf_var, varOf_bin, varOf_neg, varOf_not, varOf_and, varOf_or, varOf_ite, varOf_list, varOf_tup, varOf_cmp, varOf_cmp2, varOf_idx, varOf_sl, varOf_rev, varOf_call, varOf_meth, varOf_attr, varOf_len, varOf_sum, varOf_sumL, varOf_toInt, varOf_toList, varOf_toTup, varOf_comp, varOf_rng, valAt, datAt, ownXs, g, flat, flatAll, hfl, hp, q1, q2, cmpD_1, cmpD_2, cmpD_3, cmpD_4, cmpD_5, cmpD_6, cmpD_7, cmpD_8, cmpD_9, PyData.depth, PyData.eqv, h2']
      simp only [TT, List.map_cons, forGo, List.set_cons_succ, List.set_cons_zero, hb]
      rw [ih]
      simp [cellsOf, h2]

theorem F_len {row : List Int} (hs : ∀ c ∈ row, c ∈ sorts) : (splitL row).length ≤ row.length := by
  have := len_flat fun cl h => (splitL_ok hs cl h).ne
  rwa [splitL_flat] at this

theorem g154 {way : Nat} {row : List Int} {pen : PyData} (hw : way < 3) (hp : flat pen = true) (hs : ∀ c ∈ row, c ∈ sorts) (hl : row.length < 1000) (n : Nat) : Γs (n + 5) 154 [.dat (.list (D row)), .dat pen, tabOf way] = some (.list (cellsOf way pen (splitL row))) := by
  refine Γs_ret (ms := ms_cells) (ow := 3) (j := 6) (ar := 3) (by kernel_rfl) rfl ?_
  have e1 := g142 hw hs hl n
  have hlen := F_len hs
  obtain ⟨X', Y', h⟩ := cells_go (row := .list (D row)) hw hp (n + 1) (splitL row) [] none none (splitL_ok hs) (by simp; omega)
  show rL _ 3 (.own :: .for1 4 (.call 142 [.var 0, .var 2]) bodyCells :: [.ret (.var 3)]) _ = _
  rw [rL_nxt (ρ' := [some (.dat (.list (D row))), some (.dat pen), some (tabOf way), some (.dat (.list [])), none, none, none, none, none]) (by simp [rS_asg, rS_unp, rS_own, rS_own2, rS_aug, rS_ret, rS_ite, rS_for1, rS_whl, rS_push, rS_ext, rS_err, rS_drop, rS_forE, rS_forZ, rS_setL])]
  rw [rL_nxt (ρ' := [some (.dat (.list (D row))), some (.dat pen), some (tabOf way), some (.dat (.list ([] ++ cellsOf way pen (splitL row)))), X', Y', none, none, none]) (by rw [rS_for1]; simp only [evP_lit, evP_var, evP_bin, evP_neg, evP_not, evP_and, evP_or, evP_ite, evP_list, evP_tup, evP_cmp, evP_cmp2, evP_idx, evP_sl, evP_rev, evP_call, evP_meth, evP_attr, evP_len, evP_sum, evP_sumL, evP_toInt, evP_toList, evP_toTup, evP_comp, evP_rng, evAs_nil, evAs_cons_, varOf_lit, varOf_var, varOf_bin, varOf_neg, varOf_not, varOf_and, varOf_or, varOf_ite, varOf_list, varOf_tup, varOf_cmp, varOf_cmp2, varOf_idx, varOf_sl, varOf_rev, varOf_call, varOf_meth, varOf_attr, varOf_len, varOf_sum, varOf_sumL, varOf_toInt, varOf_toList, varOf_toTup, varOf_comp, varOf_rng, valAt, List.getElem?_cons_zero, List.getElem?_cons_succ, e1, items_1, items_2]; exact h)]
  exact rL_ret rfl

noncomputable def cutK : List Int → Int → Nat
  | [], _ => 0
  | t :: ts, m => if t ≤ m then 1 + cutK ts (m - t) else 0

noncomputable abbrev bodyCut : List MS := [.aug 4 .sub (.call 135 [(.var 5), (.var 2)]), .ite (.cmp .lt (.var 4) (.lit (.int 0))) [.ret (.var 3)] [], .ext (.var 5)]
noncomputable def endOf (Γ : Ctab) (ow : Nat) (r : List MS) : Option Out → Option Out
  | some (.nxt ρ) => rL Γ ow r ρ
  | some (.ret d) => some (.ret d)
  | none => none

theorem cut_go {way : Nat} {row most : PyData} (hw : way < 3) (n : Nat) : ∀ (F : List (List Int)) (acc : List Int) (m : Int) (X : Option V), OkF F → acc.length + F.flatten.length < 10000 → 0 ≤ m →
    endOf (Γs (n + 3)) 3 [.ret (.var 3)] (forGo (fun d ρ => rL (Γs (n + 3)) 3 bodyCut (ρ.set 5 (some (.dat d)))) (TT F) [some (.dat row), some (.dat most), some (tabOf way), some (.dat (.list (D acc))), some (.dat (.int m)), X, none, none, none]) = some (.ret (.list (D (acc ++ (F.take (cutK (F.map (cwL way)) m)).flatten))))
  | [], acc, m, X, _, _, _ => by
    rw [show (TT [] : List PyData) = [] from rfl, forGo, endOf, rL_ret (d := .list (D acc)) rfl]
    simp
  | cl :: F, acc, m, X, o, hl, hm => by
    have ocl := o cl (List.mem_cons_self ..)
    have g := g135 hw ocl.ne ocl.so n
    simp only [List.flatten_cons, List.length_append] at hl
    have hfl := flat_D cl
    by_cases hlt : cwL way cl ≤ m
    · have ih := cut_go (row := row) (most := most) hw n F (acc ++ cl) (m - cwL way cl) (some (.dat (.tuple (D cl)))) (fun x hx => o x (List.mem_cons_of_mem _ hx)) (by rw [List.length_append]; omega) (by omega)
      have q1 : acc.length + cl.length ≤ 1000000 := by omega
      have q2 : decide (m - cwL way cl < 0) = false := by simp; exact hlt
      have hb : rL (Γs (n + 3)) 3 bodyCut [some (.dat row), some (.dat most), some (tabOf way), some (.dat (.list (D acc))), some (.dat (.int m)), some (.dat (.tuple (D cl))), none, none, none] = some (.nxt [some (.dat row), some (.dat most), some (tabOf way), some (.dat (.list (D (acc ++ cl)))), some (.dat (.int (m - cwL way cl))), some (.dat (.tuple (D cl))), none, none, none]) := by
        unfold tabOf at *
        simp [bodyCut, rL_nil, rL_cons_, rS_asg, rS_unp, rS_own, rS_own2, rS_aug, rS_ret, rS_ite, rS_for1, rS_whl, rS_push, rS_ext, rS_err, rS_drop, rS_forE, rS_forZ, rS_setL, evP_lit, evP_var, evP_bin, evP_neg, evP_not, evP_and, evP_or, evP_ite, evP_list, evP_tup, evP_cmp, evP_cmp2, evP_idx, evP_sl, evP_rev, evP_call, evP_meth, evP_attr, evP_len, evP_sum, evP_sumL, evP_toInt, evP_toList, evP_toTup, evP_comp, evP_rng, evAs_nil, evAs_cons_, varOf_lit, varOf_var, varOf_bin, varOf_neg, varOf_not, varOf_and, varOf_or, varOf_ite, varOf_list, varOf_tup, varOf_cmp, varOf_cmp2, varOf_idx, varOf_sl, varOf_rev, varOf_call, varOf_meth, varOf_attr, varOf_len, varOf_sum, varOf_sumL, varOf_toInt, varOf_toList, varOf_toTup, varOf_comp, varOf_rng, valAt, datAt, ownXs, g, augD_1, augD_2, cmpD_1, cmpD_2, cmpD_3, cmpD_4, cmpD_5, cmpD_6, cmpD_7, cmpD_8, cmpD_9, q2, items_1, items_2, hfl, q1]
      simp only [TT, List.map_cons, forGo, List.set_cons_succ, List.set_cons_zero, hb]
      rw [ih, cutK, if_pos hlt, Nat.add_comm, List.take_succ_cons]
      simp
    · have q2 : decide (m - cwL way cl < 0) = true := by simp; omega
      have hb : rL (Γs (n + 3)) 3 bodyCut [some (.dat row), some (.dat most), some (tabOf way), some (.dat (.list (D acc))), some (.dat (.int m)), some (.dat (.tuple (D cl))), none, none, none] = some (.ret (.list (D acc))) := by
        unfold tabOf at *
        simp [bodyCut, rL_nil, rL_cons_, rS_asg, rS_unp, rS_own, rS_own2, rS_aug, rS_ret, rS_ite, rS_for1, rS_whl, rS_push, rS_ext, rS_err, rS_drop, rS_forE, rS_forZ, rS_setL, evP_lit, evP_var, evP_bin, evP_neg, evP_not, evP_and, evP_or, evP_ite, evP_list, evP_tup, evP_cmp, evP_cmp2, evP_idx, evP_sl, evP_rev, evP_call, evP_meth, evP_attr, evP_len, evP_sum, evP_sumL, evP_toInt, evP_toList, evP_toTup, evP_comp, evP_rng, evAs_nil, evAs_cons_, varOf_lit, varOf_var, varOf_bin, varOf_neg, varOf_not, varOf_and, varOf_or, varOf_ite, varOf_list, varOf_tup, varOf_cmp, varOf_cmp2, varOf_idx, varOf_sl, varOf_rev, varOf_call, varOf_meth, varOf_attr, varOf_len, varOf_sum, varOf_sumL, varOf_toInt, varOf_toList, varOf_toTup, varOf_comp, varOf_rng, valAt, datAt, ownXs, g, augD_1, augD_2, cmpD_1, cmpD_2, cmpD_3, cmpD_4, cmpD_5, cmpD_6, cmpD_7, cmpD_8, cmpD_9, q2]
      simp only [TT, List.map_cons, forGo, List.set_cons_succ, List.set_cons_zero, hb, endOf]
      rw [cutK, if_neg hlt]
      simp

theorem rL_endOf {Γ : Ctab} {ow : Nat} {m : MS} {r : List MS} {ρ : Env0} : rL Γ ow (m :: r) ρ = endOf Γ ow r (rS Γ ow m ρ) := by
  rw [rL_cons_]
  rcases rS Γ ow m ρ with _ | (_ | _) <;> rfl

theorem g161 {way : Nat} {row : List Int} {most : Int} (hw : way < 3) (h0 : 0 ≤ most) (hs : ∀ c ∈ row, c ∈ sorts) (hl : row.length < 1000) (n : Nat) : Γs (n + 5) 161 [.dat (.list (D row)), .dat (.int most), tabOf way] = some (.list (D ((splitL row).take (cutK ((splitL row).map (cwL way)) most)).flatten)) := by
  refine Γs_ret (ms := ms_cut) (ow := 3) (j := 6) (ar := 3) (by kernel_rfl) rfl ?_
  have e1 := g142 hw hs hl n
  have h := cut_go (row := .list (D row)) (most := .int most) hw (n + 1) (splitL row) [] most none (splitL_ok hs) (by rw [splitL_flat]; simp; omega) h0
  show rL _ 3 (.own2 4 (.var 1) :: .for1 5 (.call 142 [.var 0, .var 2]) bodyCut :: [.ret (.var 3)]) _ = _
  rw [rL_nxt (ρ' := [some (.dat (.list (D row))), some (.dat (.int most)), some (tabOf way), some (.dat (.list [])), some (.dat (.int most)), none, none, none, none]) (by simp [rS_asg, rS_unp, rS_own, rS_own2, rS_aug, rS_ret, rS_ite, rS_for1, rS_whl, rS_push, rS_ext, rS_err, rS_drop, rS_forE, rS_forZ, rS_setL, evP_lit, evP_var, evP_bin, evP_neg, evP_not, evP_and, evP_or, evP_ite, evP_list, evP_tup, evP_cmp, evP_cmp2, evP_idx, evP_sl, evP_rev, evP_call, evP_meth, evP_attr, evP_len, evP_sum, evP_sumL, evP_toInt, evP_toList, evP_toTup, evP_comp, evP_rng, datAt])]
  rw [rL_endOf, rS_for1]
  simp only [evP_lit, evP_var, evP_bin, evP_neg, evP_not, evP_and, evP_or, evP_ite, evP_list, evP_tup, evP_cmp, evP_cmp2, evP_idx, evP_sl, evP_rev, evP_call, evP_meth, evP_attr, evP_len, evP_sum, evP_sumL, evP_toInt, evP_toList, evP_toTup, evP_comp, evP_rng, evAs_nil, evAs_cons_, varOf_lit, varOf_var, varOf_bin, varOf_neg, varOf_not, varOf_and, varOf_or, varOf_ite, varOf_list, varOf_tup, varOf_cmp, varOf_cmp2, varOf_idx, varOf_sl, varOf_rev, varOf_call, varOf_meth, varOf_attr, varOf_len, varOf_sum, varOf_sumL, varOf_toInt, varOf_toList, varOf_toTup, varOf_comp, varOf_rng, valAt, List.getElem?_cons_zero, List.getElem?_cons_succ, e1, items_1, items_2]
  exact h

theorem get_back {α : Type} (xs : List α) (k : Nat) (h : k < xs.length) : pyGet xs (-1 - (k : Int)) = xs.reverse[k]? := by
  rw [List.getElem?_reverse h]
  unfold pyGet
  rw [if_neg (by omega), if_pos (by omega)]
  congr 1
  omega

noncomputable abbrev bodyAhead : List MS := [.aug 4 .sub (.call 135 [(.idx (.var 3) (.bin .sub (.neg (.lit (.int 1))) (.var 5))), (.var 2)]), .aug 5 .add (.lit (.int 1))]
noncomputable abbrev testAhead : ME := .and [(.cmp .lt (.var 5) (.len (.var 3))), (.cmp .le (.call 135 [(.idx (.var 3) (.bin .sub (.neg (.lit (.int 1))) (.var 5))), (.var 2)]) (.var 4))]

theorem ahead_go {way : Nat} {row most : PyData} {F : List (List Int)} (hw : way < 3) (o : OkF F) (n : Nat) : ∀ (d k : Nat) (m : Int) (fuel : Nat), k + d = F.length → d < fuel → ∃ m',
    whlGo (fun ρ => boolD (evP (Γs (n + 3)) ρ testAhead)) (fun ρ => rL (Γs (n + 3)) 6 bodyAhead ρ) fuel [some (.dat row), some (.dat most), some (tabOf way), some (.dat (.list (TT F))), some (.dat (.int m)), some (.dat (.int (k : Int))), none, none, none, none, none]
      = some (.nxt [some (.dat row), some (.dat most), some (tabOf way), some (.dat (.list (TT F))), some (.dat (.int m')), some (.dat (.int ((k + cutK ((F.reverse.drop k).map (cwL way)) m : Nat) : Int))), none, none, none, none, none])
  | d, k, m, 0, _, h => absurd h (Nat.not_lt_zero _)
  | 0, k, m, fuel + 1, hk, _ => by
    refine ⟨m, ?_⟩
    rw [whlGo]
    have q : decide (k < F.length) = false := by simp; omega
    have : boolD (evP (Γs (n + 3)) [some (.dat row), some (.dat most), some (tabOf way), some (.dat (.list (TT F))), some (.dat (.int m)), some (.dat (.int (k : Int))), none, none, none, none, none] testAhead) = some false := by
      simp [testAhead, evP_lit, evP_var, evP_bin, evP_neg, evP_not, evP_and, evP_or, evP_ite, evP_list, evP_tup, evP_cmp, evP_cmp2, evP_idx, evP_sl, evP_rev, evP_call, evP_meth, evP_attr, evP_len, evP_sum, evP_sumL, evP_toInt, evP_toList, evP_toTup, evP_comp, evP_rng, evAnd_nil, evAnd_cons_, datAt, lenD_1, lenD_2, cmpD_1, cmpD_2, cmpD_3, cmpD_4, cmpD_5, cmpD_6, cmpD_7, cmpD_8, cmpD_9, q, boolD]
    simp only [this]
    rw [List.drop_eq_nil_of_le (by simp; omega)]
    simp [cutK]
  | d + 1, k, m, fuel + 1, hk, hf => by
    have hkl : k < F.length := by omega
    have hrl : k < F.reverse.length := by simpa using hkl
    obtain ⟨cl, hcl⟩ : ∃ cl, F.reverse[k]? = some cl := ⟨_, List.getElem?_eq_getElem hrl⟩
    have hmem : cl ∈ F := by have := List.mem_of_getElem? hcl; simpa using this
    have g := g135 hw (o cl hmem).ne (o cl hmem).so n
    have hget : pyGet (TT F) (-1 - (k : Int)) = some (.tuple (D cl)) := by
      rw [get_back _ _ (by simpa using hkl), TT, ← List.map_reverse, List.getElem?_map, hcl]; rfl
    have hdrop : F.reverse.drop k = cl :: F.reverse.drop (k + 1) := by
      obtain ⟨hh, rfl⟩ := List.getElem?_eq_some_iff.mp hcl
      exact List.drop_eq_getElem_cons hh
    have q : decide (k < F.length) = true := by simp; omega
    have ht : boolD (evP (Γs (n + 3)) [some (.dat row), some (.dat most), some (tabOf way), some (.dat (.list (TT F))), some (.dat (.int m)), some (.dat (.int (k : Int))), none, none, none, none, none] testAhead) = some (decide (cwL way cl ≤ m)) := by
      unfold tabOf at *
      simp [testAhead, evP_lit, evP_var, evP_bin, evP_neg, evP_not, evP_and, evP_or, evP_ite, evP_list, evP_tup, evP_cmp, evP_cmp2, evP_idx, evP_sl, evP_rev, evP_call, evP_meth, evP_attr, evP_len, evP_sum, evP_sumL, evP_toInt, evP_toList, evP_toTup, evP_comp, evP_rng, evAnd_nil, evAnd_cons_, evAs_nil, evAs_cons_, varOf_lit, varOf_var, varOf_bin, varOf_neg, varOf_not, varOf_and, varOf_or, varOf_ite, varOf_list, varOf_tup, varOf_cmp, varOf_cmp2, varOf_idx, varOf_sl, varOf_rev, varOf_call, varOf_meth, varOf_attr, varOf_len, varOf_sum, varOf_sumL, varOf_toInt, varOf_toList, varOf_toTup, varOf_comp, varOf_rng, valAt, datAt, lenD_1, lenD_2, cmpD_1, cmpD_2, cmpD_3, cmpD_4, cmpD_5, cmpD_6, cmpD_7, cmpD_8, cmpD_9, q, idxD_1, idxD_2, binD_1, binD_2, binD_3, binD_4, binD_5, binD_6, binD_7, binD_8, hget, g]
      cases decide (cwL way cl ≤ m) <;> rfl
    by_cases hle : cwL way cl ≤ m
    · obtain ⟨m', ih⟩ := ahead_go (row := row) (most := most) hw o n d (k + 1) (m - cwL way cl) fuel (by omega) (by omega)
      refine ⟨m', ?_⟩
      have hb : rL (Γs (n + 3)) 6 bodyAhead [some (.dat row), some (.dat most), some (tabOf way), some (.dat (.list (TT F))), some (.dat (.int m)), some (.dat (.int (k : Int))), none, none, none, none, none] = some (.nxt [some (.dat row), some (.dat most), some (tabOf way), some (.dat (.list (TT F))), some (.dat (.int (m - cwL way cl))), some (.dat (.int ((k + 1 : Nat) : Int))), none, none, none, none, none]) := by
        unfold tabOf at *
        simp [bodyAhead, rL_nil, rL_cons_, rS_asg, rS_unp, rS_own, rS_own2, rS_aug, rS_ret, rS_ite, rS_for1, rS_whl, rS_push, rS_ext, rS_err, rS_drop, rS_forE, rS_forZ, rS_setL, evP_lit, evP_var, evP_bin, evP_neg, evP_not, evP_and, evP_or, evP_ite, evP_list, evP_tup, evP_cmp, evP_cmp2, evP_idx, evP_sl, evP_rev, evP_call, evP_meth, evP_attr, evP_len, evP_sum, evP_sumL, evP_toInt, evP_toList, evP_toTup, evP_comp, evP_rng, evAs_nil, evAs_cons_, varOf_lit, varOf_var, varOf_bin, varOf_neg, varOf_not, varOf_and, varOf_or, varOf_ite, varOf_list, varOf_tup, varOf_cmp, varOf_cmp2, varOf_idx, varOf_sl, varOf_rev, varOf_call, varOf_meth, varOf_attr, varOf_len, varOf_sum, varOf_sumL, varOf_toInt, varOf_toList, varOf_toTup, varOf_comp, varOf_rng, valAt, datAt, idxD_1, idxD_2, binD_1, binD_2, binD_3, binD_4, binD_5, binD_6, binD_7, binD_8, hget, g, augD_1, augD_2]
      rw [whlGo]
      have e : decide (cwL way cl ≤ m) = true := by simpa using hle
      simp only [ht, hb, e]
      rw [ih, hdrop, List.map_cons, cutK, if_pos hle, show k + 1 + cutK ((F.reverse.drop (k + 1)).map (cwL way)) (m - cwL way cl) = k + (1 + cutK ((F.reverse.drop (k + 1)).map (cwL way)) (m - cwL way cl)) by omega]
    · refine ⟨m, ?_⟩
      rw [whlGo]
      have e : decide (cwL way cl ≤ m) = false := by simpa using hle
      simp only [ht, e]
      rw [hdrop, List.map_cons, cutK, if_neg hle]
      rfl

theorem cutK_le : ∀ (ts : List Int) (m : Int), cutK ts m ≤ ts.length
  | [], _ => Nat.le_refl _
  | t :: ts, m => by
    have := cutK_le ts (m - t)
    rw [cutK]
    split
    · simp only [List.length_cons]; omega
    · omega

theorem ext_go {Γ : Ctab} {ow k : Nat} {T : PyData → Prop} (pre : List PyData → Option V → Env0) (hset : ∀ acc X d, (pre acc X).set k (some (.dat d)) = pre acc (some (.dat d))) (hown : ∀ acc X, ownXs (pre acc X) ow = some acc) (hk : ∀ acc d, evP Γ (pre acc (some (.dat d))) (.var k) = some d) (hput : ∀ acc X acc', (pre acc X).set ow (some (.dat (.list acc'))) = pre acc' X) :
    ∀ (F : List (List Int)) (acc : List Int) (X : Option V), acc.length + F.flatten.length < 10000 → ∃ X', forGo (fun d ρ => rL Γ ow [.ext (.var k)] (ρ.set k (some (.dat d)))) (TT F) (pre (D acc) X) = some (.nxt (pre (D (acc ++ F.flatten)) X'))
  | [], acc, X, _ => ⟨X, by simp [forGo]⟩
  | cl :: F, acc, X, hl => by
    simp only [List.flatten_cons, List.length_append] at hl
    obtain ⟨X', ih⟩ := ext_go (T := T) pre hset hown hk hput F (acc ++ cl) (some (.dat (.tuple (D cl)))) (by rw [List.length_append]; omega)
    refine ⟨X', ?_⟩
    have hb : rL Γ ow [.ext (.var k)] (pre (D acc) (some (.dat (.tuple (D cl))))) = some (.nxt (pre (D (acc ++ cl)) (some (.dat (.tuple (D cl)))))) := by
      simp only [rL_nil, rL_cons_, rS_asg, rS_unp, rS_own, rS_own2, rS_aug, rS_ret, rS_ite, rS_for1, rS_whl, rS_push, rS_ext, rS_err, rS_drop, rS_forE, rS_forZ, rS_setL, hown, hk, items_1, items_2]
      rw [if_pos ⟨flat_D cl, by simp only [D, List.length_map]; omega⟩]
      simp only [hput, D, List.map_append]
    simp only [TT, List.map_cons, forGo, hset, hb]
    rw [ih]
    simp

theorem g168 {way : Nat} {row : List Int} {most : Int} (hw : way < 3) (hs : ∀ c ∈ row, c ∈ sorts) (hl : row.length < 900) (n : Nat) :
    Γs (n + 5) 168 [.dat (.list (D row)), .dat (.int most), tabOf way] = some (.list (D ((splitL row).drop ((splitL row).length - cutK ((splitL row).reverse.map (cwL way)) most)).flatten)) := by
  refine Γs_ret (ms := ms_ahead) (ow := 6) (j := 8) (ar := 3) (by kernel_rfl) rfl ?_
  have e1 := g142 hw hs (by omega) n
  have hok := splitL_ok hs
  have hfl := splitL_flat row
  have hlen := F_len hs
  generalize splitL row = F at *
  obtain ⟨m', h⟩ := ahead_go (row := .list (D row)) (most := .int most) hw hok (n + 1) F.length 0 most 1000 (by omega) (by omega)
  have hK := cutK_le (F.reverse.map (cwL way)) most
  simp only [List.length_map, List.length_reverse] at hK
  rw [Nat.zero_add, List.drop_zero] at h
  generalize cutK (F.reverse.map (cwL way)) most = K at *
  rw [ms_ahead]
  rw [rL_nxt (ρ' := [some (.dat (.list (D row))), some (.dat (.int most)), some (tabOf way), some (.dat (.list (TT F))), some (.dat (.int most)), some (.dat (.int ((0 : Nat) : Int))), none, none, none, none, none]) (by
    have : evP (Γs (n + 4)) [some (.dat (.list (D row))), some (.dat (.int most)), some (tabOf way), none, none, none, none, none, none, none, none] (.tup [.call 142 [.var 0, .var 2], .var 1, .lit (.int 0)]) = some (.tuple [.list (TT F), .int most, .int 0]) := by
      simp [evP_lit, evP_var, evP_bin, evP_neg, evP_not, evP_and, evP_or, evP_ite, evP_list, evP_tup, evP_cmp, evP_cmp2, evP_idx, evP_sl, evP_rev, evP_call, evP_meth, evP_attr, evP_len, evP_sum, evP_sumL, evP_toInt, evP_toList, evP_toTup, evP_comp, evP_rng, evAs_nil, evAs_cons_, evDs_nil, evDs_cons_, varOf_lit, varOf_var, varOf_bin, varOf_neg, varOf_not, varOf_and, varOf_or, varOf_ite, varOf_list, varOf_tup, varOf_cmp, varOf_cmp2, varOf_idx, varOf_sl, varOf_rev, varOf_call, varOf_meth, varOf_attr, varOf_len, varOf_sum, varOf_sumL, varOf_toInt, varOf_toList, varOf_toTup, varOf_comp, varOf_rng, valAt, datAt, e1]
    simp [rS_asg, rS_unp, rS_own, rS_own2, rS_aug, rS_ret, rS_ite, rS_for1, rS_whl, rS_push, rS_ext, rS_err, rS_drop, rS_forE, rS_forZ, rS_setL, this, setAll])]
  rw [rL_nxt (by rw [rS_whl]; exact h)]
  rw [rL_nxt (ρ' := [some (.dat (.list (D row))), some (.dat (.int most)), some (tabOf way), some (.dat (.list (TT F))), some (.dat (.int m')), some (.dat (.int (K : Int))), some (.dat (.list [])), none, none, none, none]) (by simp [rS_asg, rS_unp, rS_own, rS_own2, rS_aug, rS_ret, rS_ite, rS_for1, rS_whl, rS_push, rS_ext, rS_err, rS_drop, rS_forE, rS_forZ, rS_setL])]
  have hsl : evP (Γs (n + 4)) [some (.dat (.list (D row))), some (.dat (.int most)), some (tabOf way), some (.dat (.list (TT F))), some (.dat (.int m')), some (.dat (.int (K : Int))), some (.dat (.list [])), none, none, none, none] (.sl (.var 3) (.bin .sub (.len (.var 3)) (.var 5)) (.lit .none)) = some (.list (TT (F.drop (F.length - K)))) := by
    have e : (F.length : Int) - (K : Int) = ((F.length - K : Nat) : Int) := by omega
    simp only [evP_lit, evP_var, evP_bin, evP_neg, evP_not, evP_and, evP_or, evP_ite, evP_list, evP_tup, evP_cmp, evP_cmp2, evP_idx, evP_sl, evP_rev, evP_call, evP_meth, evP_attr, evP_len, evP_sum, evP_sumL, evP_toInt, evP_toList, evP_toTup, evP_comp, evP_rng, datAt, List.getElem?_cons_zero, List.getElem?_cons_succ, lenD_1, lenD_2, binD_1, binD_2, binD_3, binD_4, binD_5, binD_6, binD_7, binD_8, TT, List.length_map, e, slD, partD_1, partD_2, pySl, Option.elim]
    rw [clip_nat (by omega), ← List.map_drop, List.take_of_length_le (by simp)]
  obtain ⟨X', hx⟩ := ext_go (Γ := Γs (n + 4)) (ow := 6) (k := 7) (T := fun _ => True) (fun acc X => [some (.dat (.list (D row))), some (.dat (.int most)), some (tabOf way), some (.dat (.list (TT F))), some (.dat (.int m')), some (.dat (.int (K : Int))), some (.dat (.list acc)), X, none, none, none]) (fun _ _ _ => rfl) (fun _ _ => rfl) (fun _ _ => rfl) (fun _ _ _ => rfl) (F.drop (F.length - K)) [] none (by
    have : (F.drop (F.length - K)).flatten.length ≤ F.flatten.length := by
      have := congrArg (fun l : List (List Int) => l.flatten.length) (List.take_append_drop (F.length - K) F)
      simp only [List.flatten_append, List.length_append] at this
      omega
    rw [hfl] at this
    simp only [List.length_nil]
    omega)
  rw [rL_nxt (by rw [rS_for1]; simp only [hsl, items_1, items_2]; exact hx)]
  exact rL_ret rfl

theorem cutK_iff : ∀ (ts : List Int) (m : Int) (k : Nat), (∀ t ∈ ts, 0 ≤ t) → 0 ≤ m → k ≤ ts.length → ((ts.take k).sum ≤ m ↔ k ≤ cutK ts m)
  | [], m, k, _, hm, hk => by simp at hk; subst hk; simp [cutK, hm]
  | t :: ts, m, 0, _, hm, _ => by simp [hm]
  | t :: ts, m, k + 1, h, hm, hk => by
    simp only [List.length_cons] at hk
    have h0 : ∀ (k : Nat), 0 ≤ (ts.take k).sum := by
      intro k
      have : ∀ (l : List Int), (∀ x ∈ l, 0 ≤ x) → 0 ≤ l.sum := by
        intro l
        induction l with
        | nil => intro _; simp
        | cons x l ih => intro h; rw [List.sum_cons]; have := h x (List.mem_cons_self ..); have := ih fun y hy => h y (List.mem_cons_of_mem _ hy); omega
      exact this _ fun x hx => h x (List.mem_cons_of_mem _ (List.mem_of_mem_take hx))
    rw [List.take_succ_cons, List.sum_cons, cutK]
    split
    · rename_i ht
      have := cutK_iff ts (m - t) k (fun x hx => h x (List.mem_cons_of_mem _ hx)) (by omega) (by omega)
      constructor
      · intro q; have := this.mp (by omega); omega
      · intro q; have := this.mpr (by omega); omega
    · rename_i ht
      have := h0 k
      constructor
      · intro q; omega
      · intro q; omega

theorem filt_le (K : Nat) : ∀ n, K < n → (List.range n).filter (fun k => decide (k ≤ K)) = List.range (K + 1)
  | 0, h => absurd h (Nat.not_lt_zero _)
  | n + 1, h => by
    by_cases he : n = K
    · subst he
      rw [List.filter_eq_self.mpr]
      intro a ha; have := List.mem_range.mp ha; simp; omega
    · rw [List.range_succ, List.filter_append, filt_le K n (by omega)]
      have : ¬ n ≤ K := by omega
      simp [this]

noncomputable abbrev LL (F : List (List Int)) : List PyData := F.map fun cl => .list (D cl)

theorem g213 {wide : List Int} {most : Int} {F : List (List Int)} (ho : ∀ cl ∈ F, cl ≠ []) (ht : ∀ cl ∈ F, 0 ≤ tkL wide cl ∧ tkL wide cl ≤ 2) (h0 : 0 ≤ most) (hl : F.length < 1000) (n : Nat) :
    Γs (n + 2) 213 [.dat (.list (LL F)), .dat (.tuple (D wide)), .dat (.int most)] = some (.list (LL (F.take (cutK (F.map (tkL wide)) most)))) := by
  refine Γs_ret (ms := ms_longest) (ow := 99) (j := 4) (ar := 3) (by kernel_rfl) rfl ?_
  show rL (Γs (n + 1)) 99 ms_longest [some (.dat (.list (LL F))), some (.dat (.tuple (D wide))), some (.dat (.int most)), none, none, none, none] = _
  have hK := cutK_le (F.map (tkL wide)) most
  rw [List.length_map] at hK
  have hts : ∀ t ∈ F.map (tkL wide), 0 ≤ t := fun t h => by obtain ⟨cl, h1, rfl⟩ := List.mem_map.mp h; exact (ht cl h1).1
  have hiff := fun k hk => cutK_iff (F.map (tkL wide)) most k hts h0 hk
  generalize cutK (F.map (tkL wide)) most = K at *
  rw [ms_longest, rL_asg (by decide) (d := .list ((List.range (K + 1)).map fun (i : Nat) => PyData.int (i : Int)))]
  · simp only [List.set_cons_succ, List.set_cons_zero]
    refine rL_ret ?_
    have hlast : pyGet ((List.range (K + 1)).map fun (i : Nat) => PyData.int (i : Int)) (-1) = some (.int (K : Int)) := by
      rw [List.range_succ, List.map_append]
      exact get_snoc _ _
    simp only [evP_lit, evP_var, evP_bin, evP_neg, evP_not, evP_and, evP_or, evP_ite, evP_list, evP_tup, evP_cmp, evP_cmp2, evP_idx, evP_sl, evP_rev, evP_call, evP_meth, evP_attr, evP_len, evP_sum, evP_sumL, evP_toInt, evP_toList, evP_toTup, evP_comp, evP_rng, datAt, List.getElem?_cons_zero, List.getElem?_cons_succ, idxD_1, idxD_2, hlast, slD, partD_1, partD_2, pySl, Option.elim, LL, List.length_map]
    rw [clip_nat hK, List.map_take]
    simp
  · have hrg : evP (Γs (n + 1)) [some (.dat (.list (LL F))), some (.dat (.tuple (D wide))), some (.dat (.int most)), none, none, none, none] (.rng (.bin .add (.len (.var 0)) (.lit (.int 1)))) = some (.list ((List.range (F.length + 1)).map fun (i : Nat) => PyData.int (i : Int))) := by
      have e : ((F.length : Int) + 1).toNat = F.length + 1 := by omega
      simp only [evP_lit, evP_var, evP_bin, evP_neg, evP_not, evP_and, evP_or, evP_ite, evP_list, evP_tup, evP_cmp, evP_cmp2, evP_idx, evP_sl, evP_rev, evP_call, evP_meth, evP_attr, evP_len, evP_sum, evP_sumL, evP_toInt, evP_toList, evP_toTup, evP_comp, evP_rng, datAt, List.getElem?_cons_zero, List.getElem?_cons_succ, lenD_1, lenD_2, binD_1, binD_2, binD_3, binD_4, binD_5, binD_6, binD_7, binD_8, List.length_map, LL, e]
      rw [if_pos (by omega)]
    refine ev_comp hrg rfl ?_
    rw [← filt_le K (F.length + 1) (by omega)]
    have hin : ∀ k, k ≤ F.length → evP (Γs (n + 1)) [some (.dat (.list (LL F))), some (.dat (.tuple (D wide))), some (.dat (.int most)), none, some (.dat (.int (k : Int))), none, none] (.cmp .le (.sum (.comp 5 (.call 208 [.var 5, .var 1]) (.sl (.var 0) (.lit .none) (.var 4)) [])) (.var 2)) = some (.bool (decide (k ≤ K))) := by
      intro k hk
      have hsl : evP (Γs (n + 1)) [some (.dat (.list (LL F))), some (.dat (.tuple (D wide))), some (.dat (.int most)), none, some (.dat (.int (k : Int))), none, none] (.sl (.var 0) (.lit .none) (.var 4)) = some (.list (LL (F.take k))) := by
        simp only [evP_lit, evP_var, evP_bin, evP_neg, evP_not, evP_and, evP_or, evP_ite, evP_list, evP_tup, evP_cmp, evP_cmp2, evP_idx, evP_sl, evP_rev, evP_call, evP_meth, evP_attr, evP_len, evP_sum, evP_sumL, evP_toInt, evP_toList, evP_toTup, evP_comp, evP_rng, datAt, List.getElem?_cons_zero, List.getElem?_cons_succ, slD, partD_1, partD_2, pySl, Option.elim, LL, List.length_map]
        rw [clip_nat hk, List.map_take]
        simp
      have hcp := ev_comp (k := 5) (elt := .call 208 [.var 5, .var 1]) (test := []) hsl rfl (compGo_map (r := fun cl => PyData.int (tkL wide cl)) (fun cl hcl => rfl) fun cl hcl => by
        have := g208 (wide := wide) (ho cl (List.mem_of_mem_take hcl)) n
        simp only [List.set_cons_succ, List.set_cons_zero, evP_lit, evP_var, evP_bin, evP_neg, evP_not, evP_and, evP_or, evP_ite, evP_list, evP_tup, evP_cmp, evP_cmp2, evP_idx, evP_sl, evP_rev, evP_call, evP_meth, evP_attr, evP_len, evP_sum, evP_sumL, evP_toInt, evP_toList, evP_toTup, evP_comp, evP_rng, evAs_nil, evAs_cons_, varOf_lit, varOf_var, varOf_bin, varOf_neg, varOf_not, varOf_and, varOf_or, varOf_ite, varOf_list, varOf_tup, varOf_cmp, varOf_cmp2, varOf_idx, varOf_sl, varOf_rev, varOf_call, varOf_meth, varOf_attr, varOf_len, varOf_sum, varOf_sumL, varOf_toInt, varOf_toList, varOf_toTup, varOf_comp, varOf_rng, valAt, List.getElem?_cons_zero, List.getElem?_cons_succ]
        exact this)
      have hsum := sumInts_D ((F.take k).map (tkL wide)) fun x hx => by
        obtain ⟨cl, h1, rfl⟩ := List.mem_map.mp hx
        have := ht cl (List.mem_of_mem_take h1)
        exact small_of this.1 (by omega)
      rw [D, List.map_map] at hsum
      refine ev_cmp (x := .int ((F.take k).map (tkL wide)).sum) (y := .int most) ?_ rfl ?_
      · rw [evP_sum]
        simp only [hcp]
        rw [show sumInts ((F.take k).map fun cl => PyData.int (tkL wide cl)) = _ from hsum]
        rfl
      · have := hiff k (by rw [List.length_map]; exact hk)
        rw [← List.map_take] at this
        rw [cmpD_2, decide_eq_decide.mpr this]
    have : ∀ l : List Nat, (∀ k ∈ l, k ≤ F.length) → compGo (fun d => evAnd (Γs (n + 1)) [some (.dat (.list (LL F))), some (.dat (.tuple (D wide))), some (.dat (.int most)), none, some (.dat d), none, none] [.cmp .le (.sum (.comp 5 (.call 208 [.var 5, .var 1]) (.sl (.var 0) (.lit .none) (.var 4)) [])) (.var 2)]) (fun d => evP (Γs (n + 1)) [some (.dat (.list (LL F))), some (.dat (.tuple (D wide))), some (.dat (.int most)), none, some (.dat d), none, none] (.var 4)) (l.map fun (i : Nat) => PyData.int (i : Int)) = some ((l.filter fun k => decide (k ≤ K)).map fun (i : Nat) => PyData.int (i : Int)) := by
      intro l
      induction l with
      | nil => intro _; rfl
      | cons k l ih =>
        intro h
        have hk := hin k (h k (List.mem_cons_self ..))
        have ih := ih fun j hj => h j (List.mem_cons_of_mem _ hj)
        simp only [List.map_cons, compGo, evAnd_nil, evAnd_cons_, hk]
        simp only [evAnd_nil, evAnd_cons_] at ih
        cases hd : decide (k ≤ K) with
        | true =>
          simp only [ih, List.filter_cons, hd]
          simp [evP_lit, evP_var, evP_bin, evP_neg, evP_not, evP_and, evP_or, evP_ite, evP_list, evP_tup, evP_cmp, evP_cmp2, evP_idx, evP_sl, evP_rev, evP_call, evP_meth, evP_attr, evP_len, evP_sum, evP_sumL, evP_toInt, evP_toList, evP_toTup, evP_comp, evP_rng, datAt]
        | false => simp only [ih, List.filter_cons, hd]; simp
    exact this _ fun k hk => by have := List.mem_range.mp hk; omega
end Mine
end

section
open PySem PyProof.Rows PySem.W
set_option Elab.async false
set_option linter.unusedVariables false
set_option linter.unusedSimpArgs false
set_option maxRecDepth 100000
namespace Mine

noncomputable abbrev msCodes : List MS := [.ite (.cmp .ne (.meth 90 4 [(.var 9)]) (.ite (.cmp .isin (.var 9) (.lit (.tuple [(.int 769), (.int 8205), (.int 65039), (.int 8419)]))) (.lit (.int 0)) (.ite (.cmp .isin (.var 9) (.var 2)) (.lit (.int 2)) (.lit (.int 1))))) [.ret (.lit (.bool false))] []]
noncomputable abbrev msDue : List MS := [.push (.tup [(.toTup (.var 10)), (.var 14), (.var 13), (.lit (.bool false))]), .ite (.cmp .eq (.var 14) (.lit (.int 2))) [.push (.tup [(.tup []), (.lit (.int 0)), (.var 13), (.lit (.bool false))])] []]
noncomputable def msTail : List MS := [.for1 9 (.var 5) msCodes, .ite (.cmp .ne (.comp 17 (.toList (.var 17)) (.call 142 [(.var 6), (.var 4)]) []) (.var 7)) [.ret (.lit (.bool false))] [], .asg 11 (.comp 17 (.call 208 [(.var 17), (.var 2)]) (.var 7) []), .ite (.or [(.cmp .ne (.call 147 [(.var 6), (.var 4)]) (.sum (.var 11))), (.cmp .ne (.comp 17 (.call 135 [(.toTup (.var 17)), (.var 4)]) (.var 7) []) (.var 11))]) [.ret (.lit (.bool false))] [], .own2 13 (.tup [(.lit (.int 1)), (.var 8), (.neg (.lit (.int 1))), (.lit (.int 2)), (.lit (.int 0))]), .forZ 10 14 (.var 7) (.var 11) msDue, .ite (.or [(.cmp .ne (.toList (.call 154 [(.var 6), (.var 13), (.var 4)])) (.var 12)), (.cmp .ne (.call 135 [(.tup []), (.var 4)]) (.lit (.int 1)))]) [.ret (.lit (.bool false))] [], .unp true [15, 16] (.tup [(.call 213 [(.var 7), (.var 2), (.var 8)]), (.rev (.call 213 [(.rev (.var 7)), (.var 2), (.var 8)]))]), .ite (.or [(.cmp .ne (.toList (.call 161 [(.var 6), (.var 8), (.var 4)])) (.sumL (.var 15))), (.cmp .ne (.toList (.call 168 [(.var 6), (.var 8), (.var 4)])) (.sumL (.var 16)))]) [.ret (.lit (.bool false))] [], .ret (.cmp .eq (.var 6) (.var 5))]

noncomputable abbrev R (way : Nat) (row : List Int) (F : List (List Int)) (most : Int) (X9 X10 X11 X12 X13 X14 X15 X16 : Option V) : Env0 :=
  [none, none, some (.dat (.tuple (D (wideOf way)))), none, some (tabOf way), some (.dat (.list (D row))), some (.dat (.list (D row))), some (.dat (.list (LL F))), some (.dat (.int most)), X9, X10, X11, X12, X13, X14, X15, X16, none, none, none]

theorem codes_go {way : Nat} {row : List Int} {F : List (List Int)} {most : Int} (hw : way < 3) (n : Nat) : ∀ (l : List Int) (X : Option V), (∀ c ∈ l, c ∈ sorts) → (∀ v, X = some v → okV v = true) → ∃ X', (∀ v, X' = some v → okV v = true) ∧ forGo (fun d ρ => rL (Γs (n + 2)) 12 msCodes (ρ.set 9 (some (.dat d)))) (D l) (R way row F most X none none none none none none none) = some (.nxt (R way row F most X' none none none none none none none))
  | [], X, _, hX => ⟨X, hX, rfl⟩
  | c :: l, X, h, hX => by
    have hc := h c (List.mem_cons_self ..)
    obtain ⟨X', hX', ih⟩ := codes_go (row := row) (F := F) (most := most) hw n l (some (.dat (.int c))) (fun x hx => h x (List.mem_cons_of_mem _ hx)) (fun v e => by cases e; rfl)
    refine ⟨X', hX', ?_⟩
    have g := g90 hw hc n
    have hb : rL (Γs (n + 2)) 12 msCodes (R way row F most (some (.dat (.int c))) none none none none none none none) = some (.nxt (R way row F most (some (.dat (.int c))) none none none none none none none)) := by
      rw [rL_if_f (c := false) ?_ rfl]
      · rfl
      refine ev_cmp (x := .int (wOf way c)) (y := .int (wOf way c)) ?_ ?_ (by rw [cmp_nei]; simp)
      · rw [evP_meth]
        simp only [valAt, List.getElem?_cons_zero, List.getElem?_cons_succ]
        unfold tabOf at *
        simp only [evAs_nil, evAs_cons_, varOf_lit, varOf_var, varOf_bin, varOf_neg, varOf_not, varOf_and, varOf_or, varOf_ite, varOf_list, varOf_tup, varOf_cmp, varOf_cmp2, varOf_idx, varOf_sl, varOf_rev, varOf_call, varOf_meth, varOf_attr, varOf_len, varOf_sum, varOf_sumL, varOf_toInt, varOf_toList, varOf_toTup, varOf_comp, varOf_rng, valAt, List.getElem?_cons_zero, List.getElem?_cons_succ, g]
      · rw [ev_ite (x := mk c) (d1 := .int 0) (d2 := if (wideOf way).contains c then .int 2 else .int 1) (ev_cmp (x := .int c) rfl (y := .tuple [.int 769, .int 8205, .int 65039, .int 8419]) (by simp [evP_lit, evP_var, evP_bin, evP_neg, evP_not, evP_and, evP_or, evP_ite, evP_list, evP_tup, evP_cmp, evP_cmp2, evP_idx, evP_sl, evP_rev, evP_call, evP_meth, evP_attr, evP_len, evP_sum, evP_sumL, evP_toInt, evP_toList, evP_toTup, evP_comp, evP_rng]) (isin_mk _)) (fun _ => by simp [evP_lit, evP_var, evP_bin, evP_neg, evP_not, evP_and, evP_or, evP_ite, evP_list, evP_tup, evP_cmp, evP_cmp2, evP_idx, evP_sl, evP_rev, evP_call, evP_meth, evP_attr, evP_len, evP_sum, evP_sumL, evP_toInt, evP_toList, evP_toTup, evP_comp, evP_rng]) fun _ => ev_ite (ev_cmp (x := .int c) rfl rfl (isin_D (wideOf way) c)) (fun _ => by simp [evP_lit, evP_var, evP_bin, evP_neg, evP_not, evP_and, evP_or, evP_ite, evP_list, evP_tup, evP_cmp, evP_cmp2, evP_idx, evP_sl, evP_rev, evP_call, evP_meth, evP_attr, evP_len, evP_sum, evP_sumL, evP_toInt, evP_toList, evP_toTup, evP_comp, evP_rng]) fun _ => by simp [evP_lit, evP_var, evP_bin, evP_neg, evP_not, evP_and, evP_or, evP_ite, evP_list, evP_tup, evP_cmp, evP_cmp2, evP_idx, evP_sl, evP_rev, evP_call, evP_meth, evP_attr, evP_len, evP_sum, evP_sumL, evP_toInt, evP_toList, evP_toTup, evP_comp, evP_rng]]
        unfold wOf
        cases mk c
        · simp; split <;> rfl
        · rfl
    simp only [List.map_cons, forGo, List.set_cons_succ, List.set_cons_zero, hb]
    exact ih

theorem depth_LL : ∀ F : List (List Int), PyData.depthAll (LL F) ≤ 1
  | [] => Nat.zero_le _
  | cl :: F => by
    have ih := depth_LL F
    have := depthAll_D cl
    show max (PyData.depth (.list (D cl))) (PyData.depthAll (LL F)) ≤ 1
    have : PyData.depth (.list (D cl)) = 1 := by show PyData.depthAll (D cl) + 1 = 1; rw [this]
    omega
theorem lay_D : ∀ l : List Int, PyData.canLayAll0 (D l) = true
  | [] => rfl
  | x :: l => by have := lay_D l; simp only [D] at this; simp [D, PyData.canLayAll0, PyData.canLay0, this]
theorem lay_LL : ∀ F : List (List Int), PyData.canLayAll0 (LL F) = true
  | [] => rfl
  | cl :: F => by have := lay_LL F; have h := lay_D cl; simp only [LL] at this; simp only [D] at h; simp [LL, PyData.canLayAll0, PyData.canLay0, this, h]
theorem ne_self {xs : List PyData} (h1 : PyData.canLayAll0 xs = true) (h2 : PyData.depthAll xs ≤ 60) : cmpD .ne (.list xs) (.list xs) = some false := by
  have h3 : PyData.eqv (.list xs) (.list xs) = true := by
    rw [PyData.eqv]; exact SeqAt.eqvAll_refl xs h1
  have h4 : PyData.depth (.list xs) ≤ 64 := by show PyData.depthAll xs + 1 ≤ 64; omega
  rw [cmpD_5, Nat.min_self, if_pos h4, h3]
  rfl
theorem okT_D (l : List Int) : okTs (D l) = true := by
  induction l with
  | nil => rfl
  | cons x l ih => simp only [D] at ih; simp [D, okTs, okT, ih]
theorem okT_LL (F : List (List Int)) : okTs (LL F) = true := by
  induction F with
  | nil => rfl
  | cons x l ih => have := okT_D x; simp only [LL] at ih; simp only [D] at this; simp [LL, okTs, okT, ih, this]
theorem okT_flat : ∀ xs : List PyData, flatAll xs = true → okTs xs = true
  | [], _ => rfl
  | x :: xs, h => by
    simp only [flatAll, Bool.and_eq_true] at h
    rw [okTs, okT_flat xs h.2, Bool.and_true]
    have h1 := h.1
    cases x <;> simp_all [flat, okT]
theorem ok_tab (way : Nat) : okV (tabOf way) = true := by
  by_cases h0 : way = 0
  · subst h0; decide +kernel
  by_cases h1 : way = 1
  · subst h1; decide +kernel
  have : tabOf way = tabOf 2 := by simp [tabOf, rangesOf, h0, h1]
  rw [this]; decide +kernel

noncomputable abbrev penD (most : Int) : PyData := .tuple [.int 1, .int most, .int (-1), .int 2, .int 0]
theorem flat_cells (way : Nat) (pen : PyData) (hp : flat pen = true) : ∀ F, flatAll (cellsOf way pen F) = true
  | [] => rfl
  | cl :: F => by
    have ih := flat_cells way pen hp F
    unfold cellsOf at *
    rw [List.flatMap_cons]
    have hfl := flat_D cl
    have : ∀ a b, flatAll a = true → flatAll b = true → flatAll (a ++ b) = true := by
      intro a b
      induction a with
      | nil => intro _ h; exact h
      | cons x a ih => intro h1 h2; simp only [List.cons_append, flatAll, Bool.and_eq_true] at h1 ⊢; exact ⟨h1.1, ih h1.2 h2⟩
    refine this _ _ ?_ ih
    split <;> simp [flatAll, flat, hp, hfl]

theorem due_go {way : Nat} {row : List Int} {F : List (List Int)} {most : Int} (n : Nat) : ∀ (G : List (List Int)) (acc : List PyData) (X10 X14 : Option V) (X9 X11 : Option V) (hok : ∀ acc X10 X14, flatAll acc = true → (∀ v, X10 = some v → okV v = true) → (∀ v, X14 = some v → okV v = true) → okEnv (R way row F most X9 X10 X11 (some (.dat (.list acc))) (some (.dat (penD most))) X14 none none) = true),
    flatAll acc = true → (∀ v, X10 = some v → okV v = true) → (∀ v, X14 = some v → okV v = true) → acc.length + 2 * G.length < 10000 → ∃ X10' X14',
    forGoT (fun ds ρ => rL (Γs n) 12 msDue (setAll ρ [10, 14] ds)) (List.zipWith (fun x y => [x, y]) (LL G) (G.map fun cl => PyData.int (cwL way cl))) (R way row F most X9 X10 X11 (some (.dat (.list acc))) (some (.dat (penD most))) X14 none none)
      = some (.nxt (R way row F most X9 X10' X11 (some (.dat (.list (acc ++ cellsOf way (penD most) G)))) (some (.dat (penD most))) X14' none none))
  | [], acc, X10, X14, X9, X11, hok, h1, h2, h3, _ => by
    refine ⟨X10, X14, ?_⟩
    show (if okEnv _ = true then _ else _) = _
    rw [if_pos (hok _ _ _ h1 h2 h3)]
    simp [cellsOf]
  | cl :: G, acc, X10, X14, X9, X11, hok, h1, h2, h3, hl => by
    simp only [List.length_cons] at hl
    have hfl := flat_D cl
    have q1 : acc.length < 1000000 := by omega
    have q2 : acc.length + 1 < 1000000 := by omega
    have happ : ∀ a b, flatAll a = true → flatAll b = true → flatAll (a ++ b) = true := by
      intro a b
      induction a with
      | nil => intro _ h; exact h
      | cons x a ih => intro h1 h2; simp only [List.cons_append, flatAll, Bool.and_eq_true] at h1 ⊢; exact ⟨h1.1, ih h1.2 h2⟩
    have o10 : ∀ v, some (V.dat (.list (D cl))) = some v → okV v = true := fun v e => by cases e; exact okT_D cl
    have o14 : ∀ i : Int, ∀ v, some (V.dat (.int i)) = some v → okV v = true := fun i v e => by cases e; rfl
    simp only [LL, List.map_cons, List.zipWith_cons_cons, forGoT]
    rw [if_pos (hok _ _ _ h1 h2 h3)]
    by_cases hc : cwL way cl = 2
    · obtain ⟨Y, Z, ih⟩ := due_go (row := row) (F := F) (most := most) n G (acc ++ [.tuple [.tuple (D cl), .int 2, penD most, .bool false], .tuple [.tuple [], .int 0, penD most, .bool false]]) (some (.dat (.list (D cl)))) (some (.dat (.int 2))) X9 X11 hok (happ _ _ h1 (by simp [flatAll, flat]; exact hfl)) o10 (o14 2) (by simp; omega)
      have hb : rL (Γs n) 12 msDue (R way row F most X9 (some (.dat (.list (D cl)))) X11 (some (.dat (.list acc))) (some (.dat (penD most))) (some (.dat (.int 2))) none none) = some (.nxt (R way row F most X9 (some (.dat (.list (D cl)))) X11 (some (.dat (.list (acc ++ [.tuple [.tuple (D cl), .int 2, penD most, .bool false], .tuple [.tuple [], .int 0, penD most, .bool false]])))) (some (.dat (penD most))) (some (.dat (.int 2))) none none)) := by
        simp [msDue, rL_nil, rL_cons_, rS_asg, rS_unp, rS_own, rS_own2, rS_aug, rS_ret, rS_ite, rS_for1, rS_whl, rS_push, rS_ext, rS_err, rS_drop, rS_forE, rS_forZ, rS_setL, evP_lit, evP_var, evP_bin, evP_neg, evP_not, evP_and, evP_or, evP_ite, evP_list, evP_tup, evP_cmp, evP_cmp2, evP_idx, evP_sl, evP_rev, evP_call, evP_meth, evP_attr, evP_len, evP_sum, evP_sumL, evP_toInt, evP_toList, evP_toTup, evP_comp, evP_rng, evDs_nil, evDs_cons_, valAt, datAt, ownXs, items_1, items_2, flat, flatAll, hfl, q1, q2, cmpD_1, cmpD_2, cmpD_3, cmpD_4, cmpD_5, cmpD_6, cmpD_7, cmpD_8, cmpD_9, PyData.depth, PyData.eqv]
      refine ⟨Y, Z, ?_⟩
      simp only [setAll, List.set_cons_succ, List.set_cons_zero, hc, hb]
      rw [ih]
      simp [cellsOf, hc]
    · obtain ⟨Y, Z, ih⟩ := due_go (row := row) (F := F) (most := most) n G (acc ++ [.tuple [.tuple (D cl), .int (cwL way cl), penD most, .bool false]]) (some (.dat (.list (D cl)))) (some (.dat (.int (cwL way cl)))) X9 X11 hok (happ _ _ h1 (by simp [flatAll, flat]; exact hfl)) o10 (o14 _) (by simp; omega)
      have hc' : (cwL way cl == 2) = false := by simpa using hc
      have hb : rL (Γs n) 12 msDue (R way row F most X9 (some (.dat (.list (D cl)))) X11 (some (.dat (.list acc))) (some (.dat (penD most))) (some (.dat (.int (cwL way cl)))) none none) = some (.nxt (R way row F most X9 (some (.dat (.list (D cl)))) X11 (some (.dat (.list (acc ++ [.tuple [.tuple (D cl), .int (cwL way cl), penD most, .bool false]])))) (some (.dat (penD most))) (some (.dat (.int (cwL way cl)))) none none)) := by
        simp [msDue, rL_nil, rL_cons_, rS_asg, rS_unp, rS_own, rS_own2, rS_aug, rS_ret, rS_ite, rS_for1, rS_whl, rS_push, rS_ext, rS_err, rS_drop, rS_forE, rS_forZ, rS_setL, evP_lit, evP_var, evP_bin, evP_neg, evP_not, evP_and, evP_or, evP_ite, evP_list, evP_tup, evP_cmp, evP_cmp2, evP_idx, evP_sl, evP_rev, evP_call, evP_meth, evP_attr, evP_len, evP_sum, evP_sumL, evP_toInt, evP_toList, evP_toTup, evP_comp, evP_rng, evDs_nil, evDs_cons_, valAt, datAt, ownXs, items_1, items_2, flat, flatAll, hfl, q1, q2, cmpD_1, cmpD_2, cmpD_3, cmpD_4, cmpD_5, cmpD_6, cmpD_7, cmpD_8, cmpD_9, PyData.depth, PyData.eqv, hc']
      refine ⟨Y, Z, ?_⟩
      simp only [setAll, List.set_cons_succ, List.set_cons_zero, hb]
      rw [ih]
      simp [cellsOf, hc]
end Mine
end

section
open PySem PyProof.Rows PySem.W
set_option Elab.async false
set_option linter.unusedVariables false
set_option linter.unusedSimpArgs false
set_option maxRecDepth 100000
namespace Mine

theorem lay_append : ∀ {a b : List PyData}, PyData.canLayAll0 a = true → PyData.canLayAll0 b = true → PyData.canLayAll0 (a ++ b) = true
  | [], _, _, h => h
  | x :: a, b, h1, h2 => by
    simp only [List.cons_append, PyData.canLayAll0, Bool.and_eq_true] at h1 ⊢
    exact ⟨h1.1, lay_append h1.2 h2⟩
theorem depth_append : ∀ {a b : List PyData} {k : Nat}, PyData.depthAll a ≤ k → PyData.depthAll b ≤ k → PyData.depthAll (a ++ b) ≤ k
  | [], _, _, _, h => h
  | x :: a, b, k, h1, h2 => by
    have e : PyData.depthAll (x :: a) = max (PyData.depth x) (PyData.depthAll a) := rfl
    have e2 : PyData.depthAll (x :: (a ++ b)) = max (PyData.depth x) (PyData.depthAll (a ++ b)) := rfl
    rw [e] at h1
    have := depth_append (a := a) (b := b) (k := k) (by omega) h2
    rw [List.cons_append, e2]
    omega
theorem lay_cells (way : Nat) (most : Int) : ∀ F, PyData.canLayAll0 (cellsOf way (penD most) F) = true
  | [] => rfl
  | cl :: F => by
    have ih := lay_cells way most F
    unfold cellsOf at *
    rw [List.flatMap_cons]
    have h := lay_D cl
    refine lay_append ?_ ih
    split <;> simp [PyData.canLayAll0, PyData.canLay0, h]
theorem depth_cells (way : Nat) (most : Int) : ∀ F, PyData.depthAll (cellsOf way (penD most) F) ≤ 3
  | [] => Nat.zero_le _
  | cl :: F => by
    have ih := depth_cells way most F
    unfold cellsOf at *
    rw [List.flatMap_cons]
    have h := depthAll_D cl
    refine depth_append ?_ ih
    split <;> simp only [PyData.depthAll, PyData.depth, h, penD] <;> omega

theorem ne_lisD (a : List Int) : cmpD .ne (.list (D a)) (.list (D a)) = some false := ne_self (lay_D a) (by rw [depthAll_D]; omega)

theorem sumLists_LL : ∀ F : List (List Int), sumLists (LL F) = some (D F.flatten)
  | [] => rfl
  | cl :: F => by
    have ih := sumLists_LL F
    simp only [LL, List.map_cons, sumLists] at ih ⊢
    rw [ih]; simp

theorem g135e (way : Nat) (n : Nat) : Γs (n + 1) 135 [.dat (.tuple []), tabOf way] = some (.int 1) := by
  refine Γs_ret (ms := ms_cw) (ow := 99) (j := 3) (ar := 2) (by kernel_rfl) rfl ?_
  rw [ms_cw, rL_if_t (c := true) (by simp [evP_lit, evP_var, evP_bin, evP_neg, evP_not, evP_and, evP_or, evP_ite, evP_list, evP_tup, evP_cmp, evP_cmp2, evP_idx, evP_sl, evP_rev, evP_call, evP_meth, evP_attr, evP_len, evP_sum, evP_sumL, evP_toInt, evP_toList, evP_toTup, evP_comp, evP_rng, datAt, lenD_1, lenD_2, cmpD_1, cmpD_2, cmpD_3, cmpD_4, cmpD_5, cmpD_6, cmpD_7, cmpD_8, cmpD_9, PyData.depth, PyData.eqv]) rfl (d := .int 1) (by simp [evP_lit, evP_var, evP_bin, evP_neg, evP_not, evP_and, evP_or, evP_ite, evP_list, evP_tup, evP_cmp, evP_cmp2, evP_idx, evP_sl, evP_rev, evP_call, evP_meth, evP_attr, evP_len, evP_sum, evP_sumL, evP_toInt, evP_toList, evP_toTup, evP_comp, evP_rng])]

/-- what the tail is told -/
structure Row (way : Nat) (row : List Int) (most : Int) : Prop where
  hw : way < 3
  hs : ∀ c ∈ row, c ∈ sorts
  hl : row.length ≤ 12
  h0 : 0 ≤ most
  h8 : most ≤ 8
section
variable {way : Nat} {row : List Int} {most : Int} (H : Row way row most)
include H
theorem Row.ok : OkF (splitL row) := splitL_ok H.hs
theorem Row.tk : ∀ cl ∈ splitL row, tkL (wideOf way) cl = cwL way cl := fun cl h => cw_tk (H.ok cl h)
theorem Row.tb : ∀ cl ∈ splitL row, 0 ≤ tkL (wideOf way) cl ∧ tkL (wideOf way) cl ≤ 2 := fun cl h => by rw [H.tk cl h]; have := cw_le way cl; omega
theorem Row.len : (splitL row).length ≤ 12 := Nat.le_trans (F_len H.hs) H.hl

theorem Row.v142 (n : Nat) (X9 X10 X11 X12 X13 X14 X15 X16 : Option V) : evP (Γs (n + 4)) (R way row (splitL row) most X9 X10 X11 X12 X13 X14 X15 X16) (.call 142 [.var 6, .var 4]) = some (.list (TT (splitL row))) := by
  rw [ev_call (vs := [.dat (.list (D row)), tabOf way]) rfl]
  exact g142 H.hw H.hs (by have := H.hl; omega) n

theorem Row.t2 (n : Nat) (X9 X10 X11 X12 X13 X14 X15 X16 : Option V) : evP (Γs (n + 4)) (R way row (splitL row) most X9 X10 X11 X12 X13 X14 X15 X16) (.cmp .ne (.comp 17 (.toList (.var 17)) (.call 142 [(.var 6), (.var 4)]) []) (.var 7)) = some (.bool false) := by
  refine ev_cmp (x := .list (LL (splitL row))) (y := .list (LL (splitL row))) (ev_comp (H.v142 n X9 X10 X11 X12 X13 X14 X15 X16) rfl (compGo_map (fun cl h => rfl) fun cl h => ?_)) rfl (ne_self (lay_LL _) (Nat.le_trans (depth_LL _) (by omega)))
  simp only [List.set_cons_succ, List.set_cons_zero, evP_lit, evP_var, evP_bin, evP_neg, evP_not, evP_and, evP_or, evP_ite, evP_list, evP_tup, evP_cmp, evP_cmp2, evP_idx, evP_sl, evP_rev, evP_call, evP_meth, evP_attr, evP_len, evP_sum, evP_sumL, evP_toInt, evP_toList, evP_toTup, evP_comp, evP_rng, datAt, List.getElem?_cons_zero, List.getElem?_cons_succ, items_1, items_2]
  rfl

noncomputable abbrev WD (way : Nat) (row : List Int) : List PyData := (splitL row).map fun cl => PyData.int (cwL way cl)
theorem WD_D : WD way row = D ((splitL row).map (cwL way)) := by rw [D, List.map_map]; rfl
theorem Row.t3 (n : Nat) (X9 X10 X11 X12 X13 X14 X15 X16 : Option V) : evP (Γs (n + 1)) (R way row (splitL row) most X9 X10 X11 X12 X13 X14 X15 X16) (.comp 17 (.call 208 [(.var 17), (.var 2)]) (.var 7) []) = some (.list (WD way row)) := by
  refine ev_comp (x := .list (LL (splitL row))) rfl rfl (compGo_map (fun cl h => rfl) fun cl h => ?_)
  have := g208 (wide := wideOf way) (H.ok cl h).ne n
  rw [H.tk cl h] at this
  simp only [List.set_cons_succ, List.set_cons_zero]
  rw [ev_call (vs := [.dat (.list (D cl)), .dat (.tuple (D (wideOf way)))]) rfl]
  exact this

theorem Row.t4 (n : Nat) (X9 X10 X12 X13 X14 X15 X16 : Option V) : evP (Γs (n + 5)) (R way row (splitL row) most X9 X10 (some (.dat (.list (WD way row)))) X12 X13 X14 X15 X16) (.or [(.cmp .ne (.call 147 [(.var 6), (.var 4)]) (.sum (.var 11))), (.cmp .ne (.comp 17 (.call 135 [(.toTup (.var 17)), (.var 4)]) (.var 7) []) (.var 11))]) = some (.bool false) := by
  refine ev_or2 (x := false) (y := false) (ev_cmp (x := .int ((splitL row).map (cwL way)).sum) (y := .int ((splitL row).map (cwL way)).sum) ?_ ?_ (by rw [cmp_nei]; simp)) fun _ => ?_
  · rw [ev_call (vs := [.dat (.list (D row)), tabOf way]) rfl]
    exact g147 H.hw H.hs (by have := H.hl; omega) n
  · rw [evP_sum]
    simp only [evP_lit, evP_var, evP_bin, evP_neg, evP_not, evP_and, evP_or, evP_ite, evP_list, evP_tup, evP_cmp, evP_cmp2, evP_idx, evP_sl, evP_rev, evP_call, evP_meth, evP_attr, evP_len, evP_sum, evP_sumL, evP_toInt, evP_toList, evP_toTup, evP_comp, evP_rng, datAt, List.getElem?_cons_zero, List.getElem?_cons_succ]
    rw [WD_D H, sumInts_D _ (sum_map_cw way (splitL row))]
    rfl
  · refine ev_cmp (x := .list (WD way row)) (y := .list (WD way row)) (ev_comp (x := .list (LL (splitL row))) rfl rfl (compGo_map (fun cl h => rfl) fun cl h => ?_)) rfl (by rw [WD_D H]; exact ne_lisD _)
    have := g135 H.hw (H.ok cl h).ne (H.ok cl h).so (n + 2)
    simp only [List.set_cons_succ, List.set_cons_zero]
    rw [ev_call (vs := [.dat (.tuple (D cl)), tabOf way]) (by simp [evAs_nil, evAs_cons_, evP_lit, evP_var, evP_bin, evP_neg, evP_not, evP_and, evP_or, evP_ite, evP_list, evP_tup, evP_cmp, evP_cmp2, evP_idx, evP_sl, evP_rev, evP_call, evP_meth, evP_attr, evP_len, evP_sum, evP_sumL, evP_toInt, evP_toList, evP_toTup, evP_comp, evP_rng, varOf_lit, varOf_var, varOf_bin, varOf_neg, varOf_not, varOf_and, varOf_or, varOf_ite, varOf_list, varOf_tup, varOf_cmp, varOf_cmp2, varOf_idx, varOf_sl, varOf_rev, varOf_call, varOf_meth, varOf_attr, varOf_len, varOf_sum, varOf_sumL, varOf_toInt, varOf_toList, varOf_toTup, varOf_comp, varOf_rng, valAt, datAt, items_1, items_2])]
    exact this

theorem Row.okR {X9 X10 X14 : Option V} {acc : List PyData} (h1 : flatAll acc = true) (h9 : ∀ v, X9 = some v → okV v = true) (h2 : ∀ v, X10 = some v → okV v = true) (h3 : ∀ v, X14 = some v → okV v = true) : okEnv (R way row (splitL row) most X9 X10 (some (.dat (.list (WD way row)))) (some (.dat (.list acc))) (some (.dat (penD most))) X14 none none) = true := by
  have o : ∀ X : Option V, (∀ v, X = some v → okV v = true) → (match X with | some v => okV v | none => true) = true := fun X h => by
    cases X with
    | none => rfl
    | some v => exact h v rfl
  have t1 := ok_tab way
  have t2 := flat_D (wideOf way)
  have t3 := okT_D row
  have t4 := okT_LL (splitL row)
  have t5 : okTs (WD way row) = true := by rw [WD_D H]; exact okT_D _
  have t6 := okT_flat acc h1
  have o9 := o _ h9
  have o10 := o _ h2
  have o14 := o _ h3
  unfold okEnv R
  rw [List.all_eq_true]
  intro X hX
  simp only [List.mem_cons, List.not_mem_nil, or_false] at hX
  rcases hX with rfl | rfl | rfl | rfl | rfl | rfl | rfl | rfl | rfl | rfl | rfl | rfl | rfl | rfl | rfl | rfl | rfl | rfl | rfl | rfl
  all_goals first | rfl | assumption

theorem Row.t7 (n : Nat) (X9 X10 X11 X14 X15 X16 : Option V) : evP (Γs (n + 5)) (R way row (splitL row) most X9 X10 X11 (some (.dat (.list (cellsOf way (penD most) (splitL row))))) (some (.dat (penD most))) X14 X15 X16) (.or [(.cmp .ne (.toList (.call 154 [(.var 6), (.var 13), (.var 4)])) (.var 12)), (.cmp .ne (.call 135 [(.tup []), (.var 4)]) (.lit (.int 1)))]) = some (.bool false) := by
  refine ev_or2 (x := false) (y := false) (ev_cmp (x := .list (cellsOf way (penD most) (splitL row))) (y := .list (cellsOf way (penD most) (splitL row))) ?_ rfl (ne_self (lay_cells ..) (Nat.le_trans (depth_cells ..) (by omega)))) fun _ => ev_cmp (x := .int 1) (y := .int 1) ?_ (by simp [evP_lit, evP_var, evP_bin, evP_neg, evP_not, evP_and, evP_or, evP_ite, evP_list, evP_tup, evP_cmp, evP_cmp2, evP_idx, evP_sl, evP_rev, evP_call, evP_meth, evP_attr, evP_len, evP_sum, evP_sumL, evP_toInt, evP_toList, evP_toTup, evP_comp, evP_rng]) (by rw [cmp_nei]; rfl)
  · rw [evP_toList, ev_call (vs := [.dat (.list (D row)), .dat (penD most), tabOf way]) rfl, g154 (pen := penD most) H.hw rfl H.hs (by have := H.hl; omega) n]; rfl
  · rw [ev_call (vs := [.dat (.tuple []), tabOf way]) (by simp [evAs_nil, evAs_cons_, evP_lit, evP_var, evP_bin, evP_neg, evP_not, evP_and, evP_or, evP_ite, evP_list, evP_tup, evP_cmp, evP_cmp2, evP_idx, evP_sl, evP_rev, evP_call, evP_meth, evP_attr, evP_len, evP_sum, evP_sumL, evP_toInt, evP_toList, evP_toTup, evP_comp, evP_rng, evDs_nil, evDs_cons_, varOf_lit, varOf_var, varOf_bin, varOf_neg, varOf_not, varOf_and, varOf_or, varOf_ite, varOf_list, varOf_tup, varOf_cmp, varOf_cmp2, varOf_idx, varOf_sl, varOf_rev, varOf_call, varOf_meth, varOf_attr, varOf_len, varOf_sum, varOf_sumL, varOf_toInt, varOf_toList, varOf_toTup, varOf_comp, varOf_rng, valAt])]; exact g135e way (n + 4)

noncomputable abbrev cutF (way : Nat) (row : List Int) (most : Int) : List (List Int) := (splitL row).take (cutK ((splitL row).map (cwL way)) most)
noncomputable abbrev cutB (way : Nat) (row : List Int) (most : Int) : List (List Int) := (splitL row).drop ((splitL row).length - cutK ((splitL row).reverse.map (cwL way)) most)
theorem Row.t8a (n : Nat) (X9 X10 X11 X12 X13 X14 X15 X16 : Option V) : evP (Γs (n + 2)) (R way row (splitL row) most X9 X10 X11 X12 X13 X14 X15 X16) (.call 213 [.var 7, .var 2, .var 8]) = some (.list (LL (cutF way row most))) := by
  have hmap : (splitL row).map (tkL (wideOf way)) = (splitL row).map (cwL way) := List.map_congr_left H.tk
  have e213 := g213 (wide := wideOf way) (most := most) (fun cl h => (H.ok cl h).ne) H.tb H.h0 (by have := H.len; omega) n
  rw [hmap] at e213
  rw [ev_call (vs := [.dat (.list (LL (splitL row))), .dat (.tuple (D (wideOf way))), .dat (.int most)]) rfl]; exact e213
theorem Row.t8b (n : Nat) (X9 X10 X11 X12 X13 X14 X15 X16 : Option V) : evP (Γs (n + 2)) (R way row (splitL row) most X9 X10 X11 X12 X13 X14 X15 X16) (.rev (.call 213 [.rev (.var 7), .var 2, .var 8])) = some (.list (LL (cutB way row most))) := by
  have hmapr : (splitL row).reverse.map (tkL (wideOf way)) = (splitL row).reverse.map (cwL way) := List.map_congr_left fun cl h => H.tk cl (by simpa using h)
  have e213r := g213 (wide := wideOf way) (most := most) (F := (splitL row).reverse) (fun cl h => (H.ok cl (by simpa using h)).ne) (fun cl h => H.tb cl (by simpa using h)) H.h0 (by rw [List.length_reverse]; have := H.len; omega) n
  rw [hmapr] at e213r
  have hrev : (LL ((splitL row).reverse.take (cutK ((splitL row).reverse.map (cwL way)) most))).reverse = LL (cutB way row most) := by
    rw [LL, LL, ← List.map_reverse, List.take_reverse, List.reverse_reverse]
  rw [evP_rev, ev_call (vs := [.dat (.list (LL (splitL row).reverse)), .dat (.tuple (D (wideOf way))), .dat (.int most)]) (by simp [evAs_nil, evAs_cons_, evP_lit, evP_var, evP_bin, evP_neg, evP_not, evP_and, evP_or, evP_ite, evP_list, evP_tup, evP_cmp, evP_cmp2, evP_idx, evP_sl, evP_rev, evP_call, evP_meth, evP_attr, evP_len, evP_sum, evP_sumL, evP_toInt, evP_toList, evP_toTup, evP_comp, evP_rng, varOf_lit, varOf_var, varOf_bin, varOf_neg, varOf_not, varOf_and, varOf_or, varOf_ite, varOf_list, varOf_tup, varOf_cmp, varOf_cmp2, varOf_idx, varOf_sl, varOf_rev, varOf_call, varOf_meth, varOf_attr, varOf_len, varOf_sum, varOf_sumL, varOf_toInt, varOf_toList, varOf_toTup, varOf_comp, varOf_rng, valAt, datAt]), e213r]
  simp only [hrev]

theorem Row.t9 (n : Nat) (X9 X10 X11 X12 X13 X14 : Option V) : evP (Γs (n + 5)) (R way row (splitL row) most X9 X10 X11 X12 X13 X14 (some (.dat (.list (LL (cutF way row most))))) (some (.dat (.list (LL (cutB way row most)))))) (.or [(.cmp .ne (.toList (.call 161 [(.var 6), (.var 8), (.var 4)])) (.sumL (.var 15))), (.cmp .ne (.toList (.call 168 [(.var 6), (.var 8), (.var 4)])) (.sumL (.var 16)))]) = some (.bool false) := by
  have hl := H.hl
  have hfl := splitL_flat row
  have hs1 : ∀ G : List (List Int), G.flatten.length ≤ row.length → ∀ (ρ : Env0) (k : Nat), datAt ρ k = some (.list (LL G)) → evP (Γs (n + 5)) ρ (.sumL (.var k)) = some (.list (D G.flatten)) := fun G hG ρ k hk => by
    rw [evP_sumL, evP_var, hk]
    simp only [sumLists_LL]
    rw [if_pos (by simp only [D, List.length_map]; omega)]
  have hb1 : ∀ k, ((splitL row).take k).flatten.length ≤ row.length ∧ ((splitL row).drop k).flatten.length ≤ row.length := fun k => by
    have := congrArg (fun l : List (List Int) => l.flatten.length) (List.take_append_drop k (splitL row))
    simp only [List.flatten_append, List.length_append, hfl] at this
    omega
  refine ev_or2 (x := false) (y := false) (ev_cmp (x := .list (D (cutF way row most).flatten)) (y := .list (D (cutF way row most).flatten)) ?_ (hs1 _ (hb1 _).1 _ _ rfl) (ne_lisD _)) fun _ => ev_cmp (x := .list (D (cutB way row most).flatten)) (y := .list (D (cutB way row most).flatten)) ?_ (hs1 _ (hb1 _).2 _ _ rfl) (ne_lisD _)
  · rw [evP_toList, ev_call (vs := [.dat (.list (D row)), .dat (.int most), tabOf way]) rfl, g161 H.hw H.h0 H.hs (by omega) n]; rfl
  · rw [evP_toList, ev_call (vs := [.dat (.list (D row)), .dat (.int most), tabOf way]) rfl, g168 (most := most) H.hw H.hs (by omega) n]; rfl
end
end Mine
end

section
open PySem PyProof.Rows PySem.W
set_option Elab.async false
set_option linter.unusedVariables false
set_option linter.unusedSimpArgs false
set_option maxRecDepth 100000
namespace Mine
section
variable {way : Nat} {row : List Int} {most : Int} (H : Row way row most)
include H
theorem Row.s1 (n : Nat) {r : List MS} : ∃ X9, (∀ v, X9 = some v → okV v = true) ∧ rL (Γs (n + 2)) 12 (.for1 9 (.var 5) msCodes :: r) (R way row (splitL row) most none none none none none none none none) = rL (Γs (n + 2)) 12 r (R way row (splitL row) most X9 none none none none none none none) := by
  obtain ⟨X9, h9, hc⟩ := codes_go (row := row) (F := splitL row) (most := most) H.hw n row none H.hs (fun v e => by cases e)
  refine ⟨X9, h9, rL_nxt ?_⟩
  rw [rS_for1, if_neg (by decide)]
  simp only [evP_lit, evP_var, evP_bin, evP_neg, evP_not, evP_and, evP_or, evP_ite, evP_list, evP_tup, evP_cmp, evP_cmp2, evP_idx, evP_sl, evP_rev, evP_call, evP_meth, evP_attr, evP_len, evP_sum, evP_sumL, evP_toInt, evP_toList, evP_toTup, evP_comp, evP_rng, datAt, List.getElem?_cons_zero, List.getElem?_cons_succ, items_1, items_2]
  exact hc
theorem Row.s6 (n : Nat) {r : List MS} {X9 : Option V} (h9 : ∀ v, X9 = some v → okV v = true) : ∃ X10 X14, rL (Γs n) 12 (.forZ 10 14 (.var 7) (.var 11) msDue :: r) (R way row (splitL row) most X9 none (some (.dat (.list (WD way row)))) (some (.dat (.list []))) (some (.dat (penD most))) none none none)
    = rL (Γs n) 12 r (R way row (splitL row) most X9 X10 (some (.dat (.list (WD way row)))) (some (.dat (.list (cellsOf way (penD most) (splitL row))))) (some (.dat (penD most))) X14 none none) := by
  obtain ⟨X10, X14, hd⟩ := due_go (row := row) (F := splitL row) (most := most) n (splitL row) [] none none X9 (some (.dat (.list (WD way row)))) (fun acc Y Z h1 h2 h3 => H.okR h1 h9 h2 h3) rfl (fun v h => by cases h) (fun v h => by cases h) (by have := H.len; simp; omega)
  refine ⟨X10, X14, rL_nxt ?_⟩
  rw [rS_forZ, if_neg (by decide)]
  simp only [evP_lit, evP_var, evP_bin, evP_neg, evP_not, evP_and, evP_or, evP_ite, evP_list, evP_tup, evP_cmp, evP_cmp2, evP_idx, evP_sl, evP_rev, evP_call, evP_meth, evP_attr, evP_len, evP_sum, evP_sumL, evP_toInt, evP_toList, evP_toTup, evP_comp, evP_rng, datAt, List.getElem?_cons_zero, List.getElem?_cons_succ]
  rw [if_pos (by simp [List.all_map, isListD])]
  exact hd
theorem Row.s8 (n : Nat) {r : List MS} {X9 X10 X11 X12 X13 X14 : Option V} : rL (Γs (n + 2)) 12 (.unp true [15, 16] (.tup [(.call 213 [(.var 7), (.var 2), (.var 8)]), (.rev (.call 213 [(.rev (.var 7)), (.var 2), (.var 8)]))]) :: r) (R way row (splitL row) most X9 X10 X11 X12 X13 X14 none none)
    = rL (Γs (n + 2)) 12 r (R way row (splitL row) most X9 X10 X11 X12 X13 X14 (some (.dat (.list (LL (cutF way row most))))) (some (.dat (.list (LL (cutB way row most)))))) := by
  refine rL_nxt ?_
  have a1 := H.t8a n X9 X10 X11 X12 X13 X14 none none
  have a2 := H.t8b n X9 X10 X11 X12 X13 X14 none none
  have a3 : evP (Γs (n + 2)) (R way row (splitL row) most X9 X10 X11 X12 X13 X14 none none) (.tup [(.call 213 [(.var 7), (.var 2), (.var 8)]), (.rev (.call 213 [(.rev (.var 7)), (.var 2), (.var 8)]))]) = some (.tuple [.list (LL (cutF way row most)), .list (LL (cutB way row most))]) := by
    rw [evP_tup, evDs_cons_, evDs_cons_, evDs_nil, a1, a2]
    rfl
  rw [rS_unp, if_neg (by decide), a3]
  rfl
theorem Row.s5 (n : Nat) {r : List MS} {X9 X10 X11 : Option V} : rL (Γs n) 12 (.own2 13 (.tup [(.lit (.int 1)), (.var 8), (.neg (.lit (.int 1))), (.lit (.int 2)), (.lit (.int 0))]) :: r) (R way row (splitL row) most X9 X10 X11 none none none none none)
    = rL (Γs n) 12 r (R way row (splitL row) most X9 X10 X11 (some (.dat (.list []))) (some (.dat (penD most))) none none none) :=
  rL_nxt (by simp [rS_asg, rS_unp, rS_own, rS_own2, rS_aug, rS_ret, rS_ite, rS_for1, rS_whl, rS_push, rS_ext, rS_err, rS_drop, rS_forE, rS_forZ, rS_setL, evP_lit, evP_var, evP_bin, evP_neg, evP_not, evP_and, evP_or, evP_ite, evP_list, evP_tup, evP_cmp, evP_cmp2, evP_idx, evP_sl, evP_rev, evP_call, evP_meth, evP_attr, evP_len, evP_sum, evP_sumL, evP_toInt, evP_toList, evP_toTup, evP_comp, evP_rng, evDs_nil, evDs_cons_, datAt])
theorem Row.s3 (n : Nat) {r : List MS} {X9 X10 : Option V} : rL (Γs (n + 1)) 12 (.asg 11 (.comp 17 (.call 208 [(.var 17), (.var 2)]) (.var 7) []) :: r) (R way row (splitL row) most X9 X10 none none none none none none)
    = rL (Γs (n + 1)) 12 r (R way row (splitL row) most X9 X10 (some (.dat (.list (WD way row)))) none none none none none) :=
  rL_asg (by decide) (H.t3 n _ _ _ _ _ _ _ _)
theorem Row.s10 (n : Nat) {X9 X10 X11 X12 X13 X14 X15 X16 : Option V} : rL (Γs n) 12 [.ret (.cmp .eq (.var 6) (.var 5))] (R way row (splitL row) most X9 X10 X11 X12 X13 X14 X15 X16) = some (.ret (.bool true)) := by
  refine rL_ret (ev_cmp (x := .list (D row)) (y := .list (D row)) rfl rfl ?_)
  rw [eq_lisD]; simp

theorem tail_ok (n : Nat) : rL (Γs (n + 5)) 12 msTail (R way row (splitL row) most none none none none none none none none) = some (.ret (.bool true)) := by
  unfold msTail
  obtain ⟨X9, h9, e1⟩ := H.s1 (n + 3) (r := msTail.drop 1)
  refine e1.trans ?_
  refine (rL_if_f (H.t2 (n + 1) X9 none none none none none none none) rfl).trans ?_
  refine (H.s3 (n + 4)).trans ?_
  refine (rL_if_f (H.t4 n X9 none none none none none none) rfl).trans ?_
  refine (H.s5 (n + 5)).trans ?_
  obtain ⟨X10, X14, e6⟩ := H.s6 (n + 5) h9 (r := msTail.drop 6)
  refine e6.trans ?_
  refine (rL_if_f (H.t7 n X9 X10 _ X14 none none) rfl).trans ?_
  refine (H.s8 (n + 3)).trans ?_
  refine (rL_if_f (H.t9 n X9 X10 _ _ _ X14) rfl).trans ?_
  exact H.s10 (n + 5)
end
end Mine
end

section
open PySem PyProof.Rows PySem.W
set_option Elab.async false
set_option linter.unusedVariables false
set_option linter.unusedSimpArgs false
set_option maxRecDepth 100000
namespace Mine
section
variable {S : Sys} {prog : Program} {w : World} {L : Nat} {Γ : Ctab} {cx : Cx} {ow : Nat} {env : Env} {P₀ F P : Addr → Prop} {s₀ s : Shared} {hF : Heap} {A : Around} {ρ : Env0} {m : Str → Option Value} {E : Value → Shared → Prop}

theorem Room.le {n k : Nat} (R : Room n A) (h : k ≤ n) : Room k A := ⟨R.hd, by have := R.depth; omega, by have := R.units; omega⟩

/-- the same frame, told anew -/
theorem Inv.remake {cx' : Cx} {ow' : Nat} {P₀' F' P' : Addr → Prop} {s₀' : Shared} {hF' : Heap} {ρ' : Env0} (I : Inv S L cx ow env P₀ s₀ F hF A ρ s P m)
    (hn : cx'.names = cx.names) (k0 : Keeps s₀' s₀) (b : Base S s₀'.heap)
    (nd : ∀ (k k' : Nat) (x : Str), cx'.slots[k]? = some (some x) → cx'.slots[k']? = some (some x) → k = k')
    (fa : ∀ a, F' a → ∃ o, hF'.get? a = some o) (fk : ∀ a o, F' a → hF'.get? a = some o → s.heap.get? a = some o) (fl : ¬ F' env.locals) (fc : ∀ (n : Str) (c : Addr), env.cells.lookup n = some c → ¬ F' c)
    (pu : ∀ a, P' a → Up P₀' s₀' a) (pa : ∀ a, P' a → ∃ o, s.heap.get? a = some o) (pl : ¬ P' env.locals) (pc : ∀ (n : Str) (c : Addr), env.cells.lookup n = some c → ¬ P' c)
    (sl : ∀ (k : Nat) (x : Str) (X : V), k ≠ ow' → cx'.slots[k]? = some (some x) → valAt ρ' k = some X → ∃ v, Slot env s.heap m x v ∧ Rep S P' s.heap v X)
    (so : ∀ (x : Str) (X : V), cx'.slots[ow']? = some (some x) → valAt ρ' ow' = some X → ∃ D xs, X = .dat (.list xs) ∧ Slot env s.heap m x (.ref D) ∧ OwnAt s₀' F' P' s.heap D xs)
    (pin : ∀ (y : Str) (u : Value), (y, u) ∈ cx'.pins → Slot env s.heap m y u ∧ ∀ k : Nat, cx'.slots[k]? ≠ some (some y)) :
    Inv S L cx' ow' env P₀' s₀' F' hF' A ρ' s P' m := by
  have none0 : ∀ a, s₀.heap.get? a = none → s₀'.heap.get? a = none := fun a h => by
    cases q : s₀'.heap.get? a with
    | none => rfl
    | some o => rw [keeps_le k0 _ _ q] at h; cases h
  exact ⟨⟨I.e.kind, I.e.names.trans hn.symm, I.e.globals, I.e.builtins, fun n h => I.e.cells n (by rw [← hn]; exact h)⟩, keeps_trans k0 I.k, b, I.r, nd, none0 _ I.lf, fun n c h => ⟨none0 _ (I.cf n c h).1, (I.cf n c h).2⟩, I.ap, fa, fk, fl, fc, pu, pa, pl, pc, I.ns, I.ce, sl, so, pin⟩

/-- data without lists need nothing that is visible -/
theorem Inv.toFlat (I : Inv S L cx ow env P₀ s₀ F hF A ρ s P m) (h : ∀ k X, k ≠ ow → valAt ρ k = some X → ∃ d, X = .dat d ∧ flat d = true) : Inv S L cx ow env P₀ s₀ F hF A ρ s (fun _ => False) m := by
  refine I.remake rfl (keeps_refl _) I.b I.nd I.fa I.fk I.fl I.fc (fun a h => h.elim) (fun a h => h.elim) (fun h => h) (fun n c h q => q) (fun k x X hk e1 e2 => ?_) (fun x X e1 e2 => ?_) I.pin
  · obtain ⟨v, hv, hr⟩ := I.sl k x X hk e1 e2
    obtain ⟨d, rfl, hd⟩ := h k X hk e2
    exact ⟨v, hv, Rd.flat hr hd⟩
  · obtain ⟨D, xs, e3, hs, vs, n, h2, h3, h4, h5, h6, h7, h8⟩ := I.so x X e1 e2
    exact ⟨D, xs, e3, hs, vs, n, h2, fun q => q, h4, h5, h6, RdAll.flat h7 h8, h8⟩

/-- a list that is none of the frame's turns; the held part is chosen anew -/
theorem Inv.changeL {z : Addr} {h' : Heap} {tk : Nat} {F2 : Addr → Prop} {hF2 : Heap} (I : Inv S L cx ow env P₀ s₀ F hF A ρ s P m) (hs : ∀ a o, a ≠ z → s.heap.get? a = some o → h'.get? a = some o) (hz0 : s₀.heap.get? z = none) (hzP : ¬ P z)
    (hzn : ∃ vs n, s.heap.get? z = some (lob vs n)) (hzF : F z) (hzl : z ≠ env.locals) (hzc : ∀ (n : Str) (c : Addr), env.cells.lookup n = some c → z ≠ c) (fa2 : ∀ a, F2 a → ∃ o, hF2.get? a = some o) (fk2 : ∀ a o, F2 a → hF2.get? a = some o → h'.get? a = some o)
    (fl2 : ¬ F2 env.locals) (fc2 : ∀ (n : Str) (c : Addr), env.cells.lookup n = some c → ¬ F2 c) (fo2 : ∀ D, IsOwn cx ow env s₀ F P ρ s.heap m D → ¬ F2 D) :
    Inv S L cx ow env P₀ s₀ F2 hF2 A ρ { s with heap := h', toks := tk } P m := by
  obtain ⟨zv, zn, hzn⟩ := hzn
  have same : Same P s.heap h' := fun a o e h => hs a o (fun q => by
    subst q
    rcases h with h | ⟨vs, n, h⟩
    · exact hzP h
    · rw [hzn] at e; cases e; simp at h) e
  have mS : ∀ {y u}, Slot env s.heap m y u → Slot env h' m y u := fun hu => by
    rcases hu with ⟨h1, h2⟩ | ⟨h1, c, h2, h3⟩
    · exact .inl ⟨h1, h2⟩
    · refine .inr ⟨h1, c, h2, ?_⟩
      obtain ⟨o, ho, hd⟩ := h3
      exact ⟨o, hs _ _ (Ne.symm (hzc _ c h2)) ho, hd⟩
  refine ⟨I.e, ?_, I.b, I.r, I.nd, I.lf, I.cf, I.ap, fa2, fk2, fl2, fc2, I.pu, fun a h => ?_, I.pl, I.pc, I.ns.at' fun o e => hs _ o (Ne.symm hzl) e, fun n c h => ?_, fun k x X hk e1 e2 => ?_, fun x X e1 e2 => ?_, fun y u hy => ⟨mS (I.pin y u hy).1, (I.pin y u hy).2⟩⟩
  · obtain ⟨h1, t1, rfl, k1⟩ := I.k
    exact ⟨h', tk, rfl, fun a o e => hs a o (fun q => by rw [q, hz0] at e; cases e) (k1 a o e)⟩
  · obtain ⟨o, e⟩ := I.pa a h
    exact ⟨o, hs a o (fun q => hzP (q ▸ h)) e⟩
  · obtain ⟨u, o, ho, hd⟩ := I.ce n c h
    exact ⟨u, o, hs _ _ (Ne.symm (hzc n c h)) ho, hd⟩
  · obtain ⟨v, hv, hr⟩ := I.sl k x X hk e1 e2
    exact ⟨v, mS hv, hr.mono (fun _ _ _ p => p) same⟩
  · obtain ⟨D, xs, e3, hsl, ho⟩ := I.so x X e1 e2
    subst e3
    have hf := fo2 D ⟨x, xs, e1, e2, hsl, ho⟩
    obtain ⟨vs, n, q2, q3, q4, q5, q6, q7, q8⟩ := ho
    exact ⟨D, xs, rfl, mS hsl, vs, n, hs _ _ (fun q => q5 (q ▸ hzF)) q2, q3, q4, hf, q6, q7.mono (fun _ _ _ p => p) same, q8⟩

/-- the frame of a call, its arguments pinned -/
theorem pin_frame {k ow : Nat} {ps : List Str} {body : List Stmt} {cx cx' : Cx} {s sB : Shared} {A : Around} {vals : List Value} {ρ' : Env0} {R' : Result → Shared → Prop}
    (fn : FnAt S k ps body cx) (hn : cx'.names = cx.names) (nd : ∀ (k k' : Nat) (x : Str), cx'.slots[k]? = some (some x) → cx'.slots[k']? = some (some x) → k = k')
    (hρ : ∀ k X, valAt ρ' k ≠ some X) (hpin : ∀ y u, (y, u) ∈ cx'.pins → (∃ i : Nat, ps[i]? = some y ∧ vals[i]? = some u) ∧ ∀ k : Nat, cx'.slots[k]? ≠ some (some y))
    (R : Room (L + 1) A) (kB : Keeps sB s) (b : Base S sB.heap) (hlen : vals.length = ps.length)
    (h : ∀ env s₁ m, Keeps s s₁ → Inv S L cx' ow env (fun _ => False) sB (fun a => ∃ o, s.heap.get? a = some o) s₁.heap (A.deeper env) ρ' s₁ (fun _ => False) m → (∀ (k : Nat) (x : Str) (v : Value), ps[k]? = some x → vals[k]? = some v → Slot env s₁.heap m x v) →
      wpAny (model prog w) (A.deeper env) (execs body env) (fun f s' => R' (.ok (.ret (match f with | .ret v => v | _ => .none))) s') (fun _ _ => False) s₁) :
    codeAny (model prog w) A (.call (.ref (S.fv k)) ⟨vals, []⟩) R' s := by
  obtain ⟨o, fd, f1, f2, f3, f4, f5, f6, f7, f8, f9, f10, f11, f12⟩ := fn.obj
  have hvl : vals.length = ps.length := hlen
  have hd := R.depth
  have hu := R.units
  have bs := b.keeps (keeps_le kB)
  refine codeAny_call_cells (by show A.depth < 1000; omega) (bs.kin _ _ f1) f2 bs.lim (f11 _ bs.kin) f3 (f12 vals hvl) f7 (fun x hx => ?_) (fun s₁ ic => ?_) f9 f10 f8
  · have hx' := (List.of_mem_zip hx).1
    rw [f4]
    rcases fn.pk _ hx' with h | h
    · exact .inl h
    · exact .inr ⟨h, cellsFrom_some (.inl (mem_lookup h))⟩
  · have frs := fresh_size s.heap
    have above : ∀ a, s.heap.objs.size ≤ a → s.heap.get? a = none := fun a ha => by
      cases e : s.heap.get? a with
      | none => rfl
      | some o => exact absurd (Heap.lt_size e) (Nat.not_lt.mpr ha)
    have none0 : ∀ a, s.heap.get? a = none → sB.heap.get? a = none := fun a h => by
      cases q : sB.heap.get? a with
      | none => rfl
      | some o => rw [keeps_le kB _ _ q] at h; cases h
    have hcl : ∀ n c, (callEnvC fd s.heap.objs.size (S.fv k)).cells.lookup n = some c → s.heap.objs.size < c := fun n c h => ic.above n c (mem_lookup h)
    have hko : ∀ y, Env.kindOf (callEnvC fd s.heap.objs.size (S.fv k)) y = cx.names.lookup y := fun y => by
      show fd.scope.names.lookup y = _
      rw [f4]
    have slot : ∀ (i : Nat) (x : Str) (v : Value), ps[i]? = some x → vals[i]? = some v → Slot (callEnvC fd s.heap.objs.size (S.fv k)) s₁.heap (bindL (callEnvC fd s.heap.objs.size (S.fv k)).kindOf (ps.zip vals) fun _ => none) x v := fun i x v hps hv => by
      rcases fn.pk x (List.mem_of_getElem? hps) with hq | hq
      · exact .inl ⟨(hko x).trans hq, bindL_get fn.nd hps hv ((hko x).trans hq)⟩
      · obtain ⟨c, hc⟩ := Option.isSome_iff_exists.mp (cellsFrom_some (k := s.heap.objs.size + 1) (acc := []) (.inl (by rw [f4]; exact mem_lookup hq)) : ((cellsFrom (s.heap.objs.size + 1) fd.scope.names []).lookup x).isSome = true)
        refine .inr ⟨(hko x).trans hq, c, hc, ?_⟩
        have := ic.cell x c hc
        rwa [bindC_get fn.nd hps hv ((hko x).trans hq)] at this
    have kk : Keeps s s₁ := by
      obtain ⟨h', tk, e⟩ := ic.toInCall.same
      exact ⟨h', tk, e, fun b o q => by have := ic.toInCall.keep b o q; rw [e] at this; exact this⟩
    refine wpAny_mono (h _ s₁ (bindL (callEnvC fd s.heap.objs.size (S.fv k)).kindOf (ps.zip vals) fun _ => none) kk ?_ slot) (fun f s' hq => hq) fun _ _ x => x.elim
    refine ⟨⟨f8, f4.trans hn.symm, f5, f6, fun n hn' => ?_⟩, keeps_trans kB kk, b, ⟨R.hd, ?_, ?_⟩, nd, none0 _ frs, fun n c h => ⟨none0 _ (above c (Nat.le_of_lt (hcl n c h))), Nat.ne_of_gt (hcl n c h)⟩, fun n n' c h h' => name_of_addr ic.apart (mem_lookup h) (mem_lookup h'),
      fun a ⟨o, e⟩ => ⟨o, keeps_le kk _ _ e⟩, fun a o _ e => e, fun ⟨o, e⟩ => ?_, fun n c h ⟨o, e⟩ => ?_, fun a h => h.elim, fun a h => h.elim, fun h => h, fun n c h q => q, ic.toInCall.ns, fun n c h => ⟨_, ic.cell n c h⟩, fun k' x X hk e1 e2 => absurd e2 (hρ _ _), fun x X e1 e2 => absurd e2 (hρ _ _), fun y u hy => ?_⟩
    · exact cellsFrom_some (.inl (by rw [f4]; exact mem_lookup (by rw [← hn]; exact hn')))
    · show A.depth + 1 + L ≤ 900
      omega
    · show A.units + 3 + 3 * L ≤ 9000
      omega
    · have e' : s.heap.get? s.heap.objs.size = some o := e
      rw [frs] at e'; cases e'
    · rw [above c (Nat.le_of_lt (hcl n c h))] at e; cases e
    · obtain ⟨⟨i, h1, h2⟩, h3⟩ := hpin y u hy
      exact ⟨slot i y u h1 h2, h3⟩
end
end Mine
end

section
open PySem PyProof.Rows PySem.W
set_option Elab.async false
set_option linter.unusedVariables false
set_option linter.unusedSimpArgs false
set_option maxRecDepth 100000
namespace Mine
section
variable {mg mb : Str → Option Value} {prog : Program} {w : World} {L : Nat} {Γ : Ctab} {cx : Cx} {ow : Nat} {env : Env} {F P : Addr → Prop} {sB s : Shared} {hF : Heap} {A : Around} {ρ : Env0} {m : Str → Option Value} {E : Value → Shared → Prop}

/-- the pen, as it lies -/
structure PenAt (h : Heap) (D l : Addr) (cells : List Int) (at' : Int) : Prop where
  ex : ∃ t n, h.get? D = some (lob #[.ref l, .int at' t] n)
  li : ∃ (vs : Array Value) (nl : Nat), h.get? l = some (lob vs nl) ∧ vs.size ≤ 1000000 ∧ RdAll (fun _ => False) h vs.toList (cells.map .int)
  ne : l ≠ D

theorem PenAt.keep {h h' : Heap} {D l : Addr} {cells : List Int} {at' : Int} (p : PenAt h D l cells at') (k : ∀ b o, b = D ∨ b = l → h.get? b = some o → h'.get? b = some o) : PenAt h' D l cells at' := by
  obtain ⟨t, n, e⟩ := p.ex
  obtain ⟨vs, nl, e1, e2, e3⟩ := p.li
  exact ⟨⟨t, n, k _ _ (.inl rfl) e⟩, ⟨vs, nl, k _ _ (.inr rfl) e1, e2, ints_any e3⟩, p.ne⟩

/-- a draw in a frame that holds the pen -/
theorem draw_eval {x : Str} {D l : Addr} {cells : List Int} {at' many : Int} {fp pp cp pos : Pos} {j : Nat} {P₀ : Addr → Prop} {Q : Value → Shared → Prop} (I : Inv (sys w mg mb) L cx ow env P₀ sB F hF A ρ s P m) (hL : 60 ≤ L)
    (hfk : ∀ a o, F a → s.heap.get? a = some o → hF.get? a = some o) (hg : isGlob cx (Str.ofString "_law_draw") = true) (hpin : (x, .ref D) ∈ cx.pins) (hx : (x == ("__debug__" : Str)) = false) (hp : PenAt s.heap D l cells at') (hF1 : F D) (hDB : sB.heap.get? D = none) (hDP : ¬ P D) (h0 : 0 ≤ at') (h1 : at' ≤ 1000) (hm : 1 ≤ many)
    (hQ : ∀ r tr h' tk, 0 ≤ r → r < many → Inv (sys w mg mb) L cx ow env P₀ sB F h' A ρ { s with heap := h', toks := tk } P m → PenAt h' D l cells (at' + 1) → (∀ b o, b ≠ D → s.heap.get? b = some o → h'.get? b = some o) → Q (.int r tr) { s with heap := h', toks := tk }) :
    wpAny (model prog w) A (eval (.Call (.Name (Str.ofString "_law_draw") fp) [.Name x pp, .Constant (.int many) j cp] [] pos) env) Q E s := by
  have bs := I.bs
  obtain ⟨t, n, eD⟩ := hp.ex
  obtain ⟨vs, nl, el, hz, hr⟩ := hp.li
  rw [eval_CallName]
  have hgm : mg (Str.ofString "_law_draw") = some (.ref 179) := mg_of bs.kin bs.g rfl
  refine wpAny_bind (name_fn (cx := cx.mask ow) I.ctxM (by exact hg) hgm ?_)
  obtain ⟨o, fd, f1, f2⟩ := fn_in (w := w) (k := 179) rfl
  refine Calls.callWith_function (o := o) (fd := fd) (evalArgs_all rfl (wpAny_items_cons (wpAny_Name (load_slot I.e I.ns (I.pin x _ hpin).1 (wpAny_items_cons (wpAny_Constant_int (wpAny_items_nil ⟨⟨bs.kin _ _ f1, f2⟩, ?_⟩)) rfl)) hx) rfl))
  refine draw_ok (at' := at') (cells := cells) (l := l) (D := D) (sB := sB) (I.r.le hL) I.b (show Le sB.heap s.heap from keeps_le I.k) hDB eD el hp.ne hz hr h0 h1 hm fun r tr h' tk t' n' r0 r1 hk hD' => ?_
  have nl' : D ≠ env.locals := fun q => by obtain ⟨o, e, ne⟩ := ns_some I.ns; rw [← q, eD] at e; cases e; exact ne.1 _ _ rfl
  have nc' : ∀ (n : Str) (c : Addr), env.cells.lookup n = some c → D ≠ c := fun n c h q => by obtain ⟨u, hu⟩ := I.ce n c h; obtain ⟨o, e, ne⟩ := cell_some hu; rw [← q, eD] at e; cases e; exact ne.1 _ _ rfl
  refine hQ r tr h' tk r0 r1 ?_ ⟨⟨t', n', hD'⟩, ⟨vs, nl, hk _ _ hp.ne el, hz, ints_any hr⟩, hp.ne⟩ (fun b o hb e => hk b o hb e)
  refine I.changeL (fun a o hne e => hk a o hne e) hDB hDP ⟨_, _, eD⟩ hF1 nl' nc' (fun a h => ?_) (fun a o _ e => e) I.fl I.fc fun D' ho h => ?_
  · by_cases hq : a = D
    · exact ⟨_, hq ▸ hD'⟩
    · obtain ⟨o, e⟩ := I.fa a h
      exact ⟨o, hk a o hq (I.fk a o h e)⟩
  · obtain ⟨_, _, _, _, _, vs, n, q2, q3, q4, q5, _⟩ := ho
    exact q5 h
end
end Mine
end

section
open PySem PyProof.Rows PySem.W
set_option Elab.async false
set_option linter.unusedVariables false
set_option linter.unusedSimpArgs false
set_option maxRecDepth 100000
namespace Mine

noncomputable def dRow : DefOf := ofName "_law_row"
noncomputable abbrev cxRow (pen : Addr) : Cx := { names := dRow.names, slots := [none, some (Str.ofString "row"), some (Str.ofString "turn"), some (Str.ofString "code"), none, none, none], pins := [(Str.ofString "pen", .ref pen)] }
section
variable {w : World} {mg mb : Str → Option Value} {prog : Program}
theorem at_row : FnAt (sys w mg mb) 193 dRow.ps dRow.body (cxOf dRow) := at_of rfl (by kernel_rfl) (by kernel_rfl) (bind1 (by kernel_rfl) (fun _ => rfl))

theorem row_body {G : List Stmt → Prop} (k : ∀ p1 p2 p3 p4 p5 p6 p7 p8 p9 p10 p11 p12 p13, G [.Assign [.Name (Str.ofString "row") p1] (.List [] p2) p3,
    .For (.Name (Str.ofString "turn") p4) (.Call (.Name (Str.ofString "range") p5) [.Call (.Name (Str.ofString "_law_draw") p6) [.Name (Str.ofString "pen") p7, .Constant (.int 13) 0 p8] [] p9] [] p10) (bodyS dRow.body 1) [] p11,
    .Return (some (.Name (Str.ofString "row") p12)) p13]) : G dRow.body := k _ _ _ _ _ _ _ _ _ _ _ _ _
noncomputable def restRow : List Stmt := (bodyS dRow.body 1).drop 1
theorem row_turn {G : List Stmt → Prop} (k : ∀ p1 p2 p3 p4 p5 p6 p7 p8, G (.Assign [.Name (Str.ofString "code") p1] (.Subscript (.Name (Str.ofString "_law_sorts") p2) (.Call (.Name (Str.ofString "_law_draw") p3) [.Name (Str.ofString "pen") p4, .Constant (.int 12) 0 p5] [] p6) p7) p8 :: restRow)) : G (bodyS dRow.body 1) :=
  k _ _ _ _ _ _ _ _
noncomputable def msRow : List MS := [.ite (.and [.cmp .ne (.var 1) (.list []), .or [.cmp2 .eq .eq (.var 3) (.idx (.var 1) (.neg (.lit (.int 1)))) (.lit (.int 65039)), .and [.cmp .isin (.var 3) (.lit (.tuple [.int 127462, .int 127487])), .cmp .isin (.idx (.var 1) (.neg (.lit (.int 1)))) (.lit (.tuple [.int 769, .int 8205, .int 65039, .int 8419]))]]]) [.asg 3 (.lit (.int 51))] [], .push (.var 3)]
theorem row_rest (pen : Addr) : cL theGT 40 4 (cxRow pen) 1 restRow = some msRow := by kernel_rfl
theorem row_sw (t : Option Expr) (l : Nat) (env : Env) (a b : Expr) (p : Pos) : swapsWith (.Subscript a b p) t l env = pure false := rfl

noncomputable abbrev rr (row : List Int) (x2 x3 : Option Int) : Env0 := [none, some (.dat (.list (row.map .int))), x2.map fun i => .dat (.int i), x3.map fun i => .dat (.int i), none, none, none]

theorem rr_flat (row : List Int) (x2 x3 : Option Int) : ∀ k X, k ≠ 1 → valAt (rr row x2 x3) k = some X → ∃ d, X = .dat d ∧ flat d = true := by
  intro k X hk e
  match k, hk, e with
  | 0, _, e => simp [valAt] at e
  | 1, hk, _ => exact absurd rfl hk
  | 2, _, e => cases x2 <;> simp [valAt] at e; subst e; exact ⟨_, rfl, rfl⟩
  | 3, _, e => cases x3 <;> simp [valAt] at e; subst e; exact ⟨_, rfl, rfl⟩
  | 4, _, e => simp [valAt] at e
  | 5, _, e => simp [valAt] at e
  | 6, _, e => simp [valAt] at e
  | k + 7, _, e => simp [valAt] at e

theorem sort_at {r : Int} (h0 : 0 ≤ r) (h1 : r < 12) : ∃ c, c ∈ sorts ∧ pyGet (sorts.map PyData.int) r = some (.int c) := by
  have h : ∀ k : Nat, k < 12 → ∃ c, c ∈ sorts ∧ pyGet (sorts.map PyData.int) ((k : Nat) : Int) = some (.int c) := by
    intro k hk
    have hk' : k < sorts.length := hk
    refine ⟨sorts[k], List.getElem_mem hk', ?_⟩
    simp [pyGet, hk']
  have := h r.toNat (by omega)
  rwa [Int.toNat_of_nonneg h0] at this

/-- the turn's rest: the code stands, or 51 for it -/
theorem row_go (Γ : Ctab) (row : List Int) (x2 : Option Int) (c : Int) (hc : c ∈ sorts) (hl : row.length < 1000) : ∃ c', c' ∈ sorts ∧ rL Γ 1 msRow (rr row x2 (some c)) = some (.nxt (rr (row ++ [c']) x2 (some c'))) := by
  have hfl : row.length < 1000000 := by omega
  have key : ∀ b : Bool, evP Γ (rr row x2 (some c)) (.and [.cmp .ne (.var 1) (.list []), .or [.cmp2 .eq .eq (.var 3) (.idx (.var 1) (.neg (.lit (.int 1)))) (.lit (.int 65039)), .and [.cmp .isin (.var 3) (.lit (.tuple [.int 127462, .int 127487])), .cmp .isin (.idx (.var 1) (.neg (.lit (.int 1)))) (.lit (.tuple [.int 769, .int 8205, .int 65039, .int 8419]))]]]) = some (.bool b) →
      ∃ c', c' ∈ sorts ∧ rL Γ 1 msRow (rr row x2 (some c)) = some (.nxt (rr (row ++ [c']) x2 (some c'))) := by
    intro b h
    cases b with
    | true =>
      refine ⟨51, by decide, ?_⟩
      unfold msRow
      rw [rL_cons_, rS_ite, h]
      simp [rL_nil, rL_cons_, rS_asg, rS_unp, rS_own, rS_own2, rS_aug, rS_ret, rS_ite, rS_for1, rS_whl, rS_push, rS_ext, rS_err, rS_drop, rS_forE, rS_forZ, rS_setL, evP_lit, evP_var, evP_bin, evP_neg, evP_not, evP_and, evP_or, evP_ite, evP_list, evP_tup, evP_cmp, evP_cmp2, evP_idx, evP_sl, evP_rev, evP_call, evP_meth, evP_attr, evP_len, evP_sum, evP_sumL, evP_toInt, evP_toList, evP_toTup, evP_comp, evP_rng, datAt, ownXs, flat, rr, hfl]
    | false =>
      refine ⟨c, hc, ?_⟩
      unfold msRow
      rw [rL_cons_, rS_ite, h]
      simp [rL_nil, rL_cons_, rS_asg, rS_unp, rS_own, rS_own2, rS_aug, rS_ret, rS_ite, rS_for1, rS_whl, rS_push, rS_ext, rS_err, rS_drop, rS_forE, rS_forZ, rS_setL, evP_lit, evP_var, evP_bin, evP_neg, evP_not, evP_and, evP_or, evP_ite, evP_list, evP_tup, evP_cmp, evP_cmp2, evP_idx, evP_sl, evP_rev, evP_call, evP_meth, evP_attr, evP_len, evP_sum, evP_sumL, evP_toInt, evP_toList, evP_toTup, evP_comp, evP_rng, datAt, ownXs, flat, rr, hfl]
  by_cases hr : row = []
  · subst hr
    exact key false (by simp [evP_lit, evP_var, evP_bin, evP_neg, evP_not, evP_and, evP_or, evP_ite, evP_list, evP_tup, evP_cmp, evP_cmp2, evP_idx, evP_sl, evP_rev, evP_call, evP_meth, evP_attr, evP_len, evP_sum, evP_sumL, evP_toInt, evP_toList, evP_toTup, evP_comp, evP_rng, evAnd_nil, evAnd_cons_, evDs_nil, evDs_cons_, datAt, cmpD_1, cmpD_2, cmpD_3, cmpD_4, cmpD_5, cmpD_6, cmpD_7, cmpD_8, cmpD_9, PyData.depth, PyData.depthAll, PyData.eqv, PyData.eqvAll])
  · obtain ⟨a, d, rfl⟩ : ∃ a d, row = a ++ [d] := ⟨_, _, (List.dropLast_concat_getLast hr).symm⟩
    have hlast : pyGet (((a ++ [d]).map PyData.int)) (-1) = some (.int d) := by
      have e : (-1 + ((a.length : Int) + 1)).toNat = a.length := by omega
      simp [pyGet, e]
      omega
    have hlast' : pyGet (a.map PyData.int ++ [PyData.int d]) (-1) = some (.int d) := by simpa using hlast
    have hne : cmpD .ne (.list (a.map PyData.int ++ [.int d])) (.list []) = some true := by
      have hd : PyData.depth (.list []) = 1 := rfl
      have he : PyData.eqv (.list (a.map PyData.int ++ [.int d])) (.list []) = false := by
        cases a <;> rfl
      rw [cmpD_5, if_pos (by rw [hd]; omega), he]; rfl
    have h1 : evP Γ (rr (a ++ [d]) x2 (some c)) (.cmp .ne (.var 1) (.list [])) = some (.bool true) := by
      simp [evP_lit, evP_var, evP_bin, evP_neg, evP_not, evP_and, evP_or, evP_ite, evP_list, evP_tup, evP_cmp, evP_cmp2, evP_idx, evP_sl, evP_rev, evP_call, evP_meth, evP_attr, evP_len, evP_sum, evP_sumL, evP_toInt, evP_toList, evP_toTup, evP_comp, evP_rng, evDs_nil, evDs_cons_, datAt, hne]
    have hb1 : ∃ b, evP Γ (rr (a ++ [d]) x2 (some c)) (.cmp2 .eq .eq (.var 3) (.idx (.var 1) (.neg (.lit (.int 1)))) (.lit (.int 65039))) = some (.bool b) := by
      by_cases hcd : c = d
      · subst hcd
        by_cases h8 : c = 65039
        · subst h8; exact ⟨true, by simp [evP_lit, evP_var, evP_bin, evP_neg, evP_not, evP_and, evP_or, evP_ite, evP_list, evP_tup, evP_cmp, evP_cmp2, evP_idx, evP_sl, evP_rev, evP_call, evP_meth, evP_attr, evP_len, evP_sum, evP_sumL, evP_toInt, evP_toList, evP_toTup, evP_comp, evP_rng, datAt, idxD_1, idxD_2, hlast', cmpD_1, cmpD_2, cmpD_3, cmpD_4, cmpD_5, cmpD_6, cmpD_7, cmpD_8, cmpD_9, PyData.depth, PyData.eqv]⟩
        · have : (c == 65039) = false := by simpa using h8
          exact ⟨false, by simp [evP_lit, evP_var, evP_bin, evP_neg, evP_not, evP_and, evP_or, evP_ite, evP_list, evP_tup, evP_cmp, evP_cmp2, evP_idx, evP_sl, evP_rev, evP_call, evP_meth, evP_attr, evP_len, evP_sum, evP_sumL, evP_toInt, evP_toList, evP_toTup, evP_comp, evP_rng, datAt, idxD_1, idxD_2, hlast', cmpD_1, cmpD_2, cmpD_3, cmpD_4, cmpD_5, cmpD_6, cmpD_7, cmpD_8, cmpD_9, PyData.depth, PyData.eqv, h8]⟩
      · have : (c == d) = false := by simpa using hcd
        exact ⟨false, by simp [evP_lit, evP_var, evP_bin, evP_neg, evP_not, evP_and, evP_or, evP_ite, evP_list, evP_tup, evP_cmp, evP_cmp2, evP_idx, evP_sl, evP_rev, evP_call, evP_meth, evP_attr, evP_len, evP_sum, evP_sumL, evP_toInt, evP_toList, evP_toTup, evP_comp, evP_rng, datAt, idxD_1, idxD_2, hlast', cmpD_1, cmpD_2, cmpD_3, cmpD_4, cmpD_5, cmpD_6, cmpD_7, cmpD_8, cmpD_9, PyData.depth, PyData.eqv, this]⟩
    have hb2 : ∃ b, evP Γ (rr (a ++ [d]) x2 (some c)) (.cmp .isin (.var 3) (.lit (.tuple [.int 127462, .int 127487]))) = some (.bool b) :=
      ⟨[PyData.int 127462, .int 127487].any fun y => PyData.eqv y (.int c), by simp [evP_lit, evP_var, evP_bin, evP_neg, evP_not, evP_and, evP_or, evP_ite, evP_list, evP_tup, evP_cmp, evP_cmp2, evP_idx, evP_sl, evP_rev, evP_call, evP_meth, evP_attr, evP_len, evP_sum, evP_sumL, evP_toInt, evP_toList, evP_toTup, evP_comp, evP_rng, datAt, cmpD_1, cmpD_2, cmpD_3, cmpD_4, cmpD_5, cmpD_6, cmpD_7, cmpD_8, cmpD_9, PyData.depth, PyData.depthAll]⟩
    have hb3 : ∃ b, evP Γ (rr (a ++ [d]) x2 (some c)) (.cmp .isin (.idx (.var 1) (.neg (.lit (.int 1)))) (.lit (.tuple [.int 769, .int 8205, .int 65039, .int 8419]))) = some (.bool b) :=
      ⟨[PyData.int 769, .int 8205, .int 65039, .int 8419].any fun y => PyData.eqv y (.int d), by simp [evP_lit, evP_var, evP_bin, evP_neg, evP_not, evP_and, evP_or, evP_ite, evP_list, evP_tup, evP_cmp, evP_cmp2, evP_idx, evP_sl, evP_rev, evP_call, evP_meth, evP_attr, evP_len, evP_sum, evP_sumL, evP_toInt, evP_toList, evP_toTup, evP_comp, evP_rng, datAt, idxD_1, idxD_2, hlast', cmpD_1, cmpD_2, cmpD_3, cmpD_4, cmpD_5, cmpD_6, cmpD_7, cmpD_8, cmpD_9, PyData.depth, PyData.depthAll]⟩
    obtain ⟨b1, hb1⟩ := hb1
    obtain ⟨b2, hb2⟩ := hb2
    obtain ⟨b3, hb3⟩ := hb3
    have h4 : evP Γ (rr (a ++ [d]) x2 (some c)) (.and [.cmp .isin (.var 3) (.lit (.tuple [.int 127462, .int 127487])), .cmp .isin (.idx (.var 1) (.neg (.lit (.int 1)))) (.lit (.tuple [.int 769, .int 8205, .int 65039, .int 8419]))]) = some (.bool (b2 && b3)) := by
      cases b2 <;> cases b3 <;> simp only [evP_lit, evP_var, evP_bin, evP_neg, evP_not, evP_and, evP_or, evP_ite, evP_list, evP_tup, evP_cmp, evP_cmp2, evP_idx, evP_sl, evP_rev, evP_call, evP_meth, evP_attr, evP_len, evP_sum, evP_sumL, evP_toInt, evP_toList, evP_toTup, evP_comp, evP_rng, evAnd_nil, evAnd_cons_] at hb2 hb3 ⊢ <;> simp only [hb2, hb3] <;> rfl
    have h5 : evP Γ (rr (a ++ [d]) x2 (some c)) (.or [.cmp2 .eq .eq (.var 3) (.idx (.var 1) (.neg (.lit (.int 1)))) (.lit (.int 65039)), .and [.cmp .isin (.var 3) (.lit (.tuple [.int 127462, .int 127487])), .cmp .isin (.idx (.var 1) (.neg (.lit (.int 1)))) (.lit (.tuple [.int 769, .int 8205, .int 65039, .int 8419]))]]) = some (.bool (b1 || (b2 && b3))) := by
      rw [evP_or]
      simp only [evOr_nil, evOr_cons_, hb1, h4]
      cases b1 <;> cases b2 <;> cases b3 <;> rfl
    refine key (b1 || (b2 && b3)) ?_
    rw [evP_and]
    simp only [evAnd_nil, evAnd_cons_, h1, h5]
    cases b1 <;> cases b2 <;> cases b3 <;> rfl
end
end Mine
end

section
open PySem PyProof.Rows PySem.W
set_option Elab.async false
set_option linter.unusedVariables false
set_option linter.unusedSimpArgs false
set_option maxRecDepth 100000
namespace Mine
section
variable {S : Sys} {prog : Program} {w : World} {L : Nat} {Γ : Ctab} {cx : Cx} {ow : Nat} {env : Env} {P₀ F P : Addr → Prop} {s₀ s : Shared} {hF : Heap} {A : Around} {ρ : Env0} {m : Str → Option Value} {E : Value → Shared → Prop}
/-- what is held is held as it stands now -/
theorem Inv.now (I : Inv S L cx ow env P₀ s₀ F hF A ρ s P m) : Inv S L cx ow env P₀ s₀ F s.heap A ρ s P m :=
  I.rebase (fun a h => by obtain ⟨o, e⟩ := I.fa a h; exact ⟨o, I.fk a o h e⟩) (fun a o _ e => e) I.fl I.fc fun D ho h => by
    obtain ⟨_, _, _, _, _, vs, n, q2, q3, q4, q5, _⟩ := ho
    exact q5 h
end
section
variable {w : World} {mg mb : Str → Option Value} {prog : Program}

theorem row_lc (pen : Addr) : isLC (cxRow pen) (Str.ofString "row") = true ∧ isLC (cxRow pen) (Str.ofString "turn") = true ∧ isLC (cxRow pen) (Str.ofString "code") = true := by
  refine ⟨?_, ?_, ?_⟩ <;> kernel_rfl
theorem row_glob (pen : Addr) : isGlob (cxRow pen) (Str.ofString "range") = true ∧ isGlob (cxRow pen) (Str.ofString "_law_draw") = true ∧ (cxRow pen).names.lookup (Str.ofString "_law_sorts") = some .globalImplicit := by
  refine ⟨?_, ?_, ?_⟩ <;> kernel_rfl
theorem row_slot (pen : Addr) : slotOf (cxRow pen).slots (Str.ofString "row") = some 1 ∧ slotOf (cxRow pen).slots (Str.ofString "turn") = some 2 ∧ slotOf (cxRow pen).slots (Str.ofString "code") = some 3 := by
  refine ⟨?_, ?_, ?_⟩ <;> kernel_rfl
theorem row_nd (pen : Addr) : ∀ (k k' : Nat) (x : Str), (cxRow pen).slots[k]? = some (some x) → (cxRow pen).slots[k']? = some (some x) → k = k' := ndB_spec (l := [none, some (Str.ofString "row"), some (Str.ofString "turn"), some (Str.ofString "code"), none, none, none]) (by decide +kernel)
theorem row_penfree (pen : Addr) : ∀ k : Nat, (cxRow pen).slots[k]? ≠ some (some (Str.ofString "pen")) := by
  intro k h
  have := List.mem_of_getElem? h
  revert this
  show ¬ (some (Str.ofString "pen") ∈ [none, some (Str.ofString "row"), some (Str.ofString "turn"), some (Str.ofString "code"), none, none, none])
  decide +kernel

/-- the row that the pen tells -/
theorem row_ok {A : Around} {s sB : Shared} {Dp l : Addr} {cells : List Int} {at0 : Int} {E : Value → Shared → Prop} {Q : Value → Shared → Prop} (R : Room 63 A) (hB : Base (sys w mg mb) sB.heap) (kB : Keeps sB s) (hDB : sB.heap.get? Dp = none)
    (hp : PenAt s.heap Dp l cells at0) (h0 : 0 ≤ at0) (h1 : at0 ≤ 900)
    (hQ : ∀ a (row : List Int) vs n h' tk at1, (∀ c ∈ row, c ∈ sorts) → row.length ≤ 12 → s.heap.get? a = none → h'.get? a = some (lob vs n) → vs.size ≤ 1000000 → RdAll (fun _ => False) h' vs.toList (row.map .int) → PenAt h' Dp l cells at1 → 0 ≤ at1 → at1 ≤ at0 + 13 →
      (∀ b o, b ≠ Dp → s.heap.get? b = some o → h'.get? b = some o) → Q (.ref a) { s with heap := h', toks := tk }) :
    wpAny (model prog w) A (call (.ref 193) [.ref Dp]) Q E s := by
  obtain ⟨eDt, eDn, eD⟩ := hp.ex
  refine wpAny_call (pin_frame (S := sys w mg mb) (L := 62) (ow := 1) (cx' := cxRow Dp) (ρ' := List.replicate 7 none) (k := 193) (sB := sB) at_row rfl (row_nd Dp) (fun k X h => ?_) (fun y u h => ?_) R kB hB rfl fun env s₁ m k1 I _ => ?_)
  · unfold valAt at h
    rw [List.getElem?_replicate] at h
    split at h <;> simp_all
  · have h := List.mem_singleton.mp h
    cases h
    exact ⟨⟨0, by kernel_rfl, rfl⟩, row_penfree Dp⟩
  refine row_body (G := fun b => wpAny (model prog w) (A.deeper env) (execs b env) _ _ s₁) fun p1 p2 p3 p4 p5 p6 p7 p8 p9 p10 p11 p12 p13 => ?_
  have snd := fun n => sound (S := sys w mg mb) (prog := prog) (w := w) (L := 62) (Γ := Γs 62) (goodS 62) n
  have lc := row_lc Dp
  have gl := row_glob Dp
  have sl := row_slot Dp
  have hpmem : (Str.ofString "pen", Value.ref Dp) ∈ (cxRow Dp).pins := List.mem_singleton.mpr rfl
  have hpdbg : (Str.ofString "pen" == ("__debug__" : Str)) = false := by decide +kernel
  have FD : ∃ o, s.heap.get? Dp = some o := ⟨_, eD⟩
  -- row = []
  refine run_next (x_own (S := sys w mg mb) (prog := prog) (w := w) (L := 62) (Γ := Γs 62) (cx := cxRow Dp) (ow := 1) lc.1 sl.1) (ρ' := rr [] none none) rfl I fun s2 P2 m2 I2 => ?_
  have kp2 : ∀ b o, s.heap.get? b = some o → s2.heap.get? b = some o := fun b o e => I2.fk b o ⟨o, e⟩ (keeps_le k1 _ _ e)
  have hp2 : PenAt s2.heap Dp l cells at0 := hp.keep fun b o _ e => kp2 b o e
  replace I2 := (I2.toFlat (rr_flat _ _ _)).now
  -- the loop
  refine wpAny_execs_cons (wpAny_For ?_ (folded_notSet rfl env))
  rw [eval_CallName]
  refine wpAny_bind (name_bi (cx := (cxRow Dp).mask 1) I2.ctxM (by exact gl.1) (v := .type "range") (by decide +kernel) ?_)
  refine PySem.callWith_type (starEach_plain _ _ rfl) (evalArgs_all rfl (wpAny_items_cons (draw_eval I2 (by decide) (fun _ _ _ e => e) gl.2.1 hpmem hpdbg hp2 FD hDB (fun h => h) h0 (by omega) (by decide) fun r tr h3 tk3 r0 r1 I3 hp3 hk3 => wpAny_items_nil ?_) rfl))
  refine call_range_1 ?_
  have kp3 : ∀ b o, b ≠ Dp → s.heap.get? b = some o → h3.get? b = some o := fun b o hb e => hk3 b o hb (kp2 b o e)
  refine iter_range (P := fun _ => False) I2.r.hd (IsRange.new ..) (by omega) (by omega) _ _ fun s₂ It fp Pi St k2 hI0 hlive W hst hfp hPi => ?_
  have hN : (rangeD r).length ≤ 12 := by simp only [rangeD, List.length_map, List.length_range]; omega
  have hxs : ∀ (i : Nat) (d : PyData), (rangeD r)[i]? = some d → ∃ k : Int, d = .int k := fun i d h => by
    have := List.mem_of_getElem? h
    simp only [rangeD] at this
    obtain ⟨k, _, rfl⟩ := List.mem_map.mp this
    exact ⟨_, rfl⟩
  generalize (rangeD r) = xs at *
  have le2 := keeps_le k2
  have k3 := keeps_trans (keeps_heap' (s := { s2 with heap := h3, toks := tk3 }) (Le.push _ _)) k2
  have le3 : Le h3 s₂.heap := keeps_le k3
  have hpush : ∀ ob, Le h3 (h3.push ob) := fun ob => Le.push h3 ob
  have itn : ∀ a o, h3.get? a = some o → a ≠ It := fun a o e q => by
    subst q
    cases ((hpush _ _ _ e).symm.trans hI0)
  have fpn : ∀ a o, h3.get? a = some o → (∀ vs n, o ≠ tob vs n) → a ∉ fp := fun a o e hn hm => by
    rcases hfp a hm with q | ⟨o', e', q⟩
    · exact itn _ _ e q
    · rcases q with q | ⟨vs, n, q⟩
      · exact q
      · cases ((hpush _ _ _ e).symm.trans e')
        exact hn _ _ q
  let F2 : Addr → Prop := fun a => (∃ o, s.heap.get? a = some o) ∨ a ∈ fp
  have fl2 : ¬ F2 env.locals := fun h => by
    obtain ⟨o, e, ne⟩ := ns_some I3.ns
    rcases h with h | h
    · exact I3.fl h
    · exact fpn _ o e ne.2 h
  have fc2 : ∀ (n : Str) (c : Addr), env.cells.lookup n = some c → ¬ F2 c := fun n c hc h => by
    obtain ⟨u, hu⟩ := I3.ce n c hc
    obtain ⟨o, e, ne⟩ := cell_some hu
    rcases h with h | h
    · exact I3.fc n c hc h
    · exact fpn _ o e ne.2 h
  have I4 : Inv (sys w mg mb) 62 (cxRow Dp) 1 env (fun _ => False) sB F2 s₂.heap (A.deeper env) (rr [] none none) s₂ (fun _ => False) m2 := by
    refine (I3.same k3).rebase (fun a h => ?_) (fun a o _ e => e) fl2 fc2 fun D' ho h => ?_
    · rcases h with h | h
      · obtain ⟨o, e⟩ := I3.fa a h; exact ⟨o, le3 _ _ e⟩
      · rcases hfp a h with q | ⟨o, e, _⟩
        · obtain ⟨o, e, _⟩ := hlive _ _ hst; exact ⟨o, q ▸ e⟩
        · exact ⟨o, le2 _ _ e⟩
    · obtain ⟨x', xs', e1, e2, hsl, _⟩ := ho
      obtain ⟨D0, ys, e3, hsl0, vs, n', q2, q3, q4, q5, q6, q7, q8⟩ := I3.so x' _ e1 e2
      have := slot_det (hsl0.keeps le3) hsl
      cases this
      rcases h with h | h
      · exact q5 h
      · exact fpn _ _ q2 (fun vs n q => by simp at q) h
  have kp4 : ∀ b o, b ≠ Dp → s.heap.get? b = some o → s₂.heap.get? b = some o := fun b o hb e => le3 _ _ (kp3 b o hb e)
  have hp4 : PenAt s₂.heap Dp l cells (at0 + 1) := hp3.keep fun b o _ e => le3 _ _ e
  have DnI : Dp ≠ It := by obtain ⟨t, n, e⟩ := hp3.ex; exact itn _ _ e
  have sIt : ∀ b o, s.heap.get? b = some o → b ≠ It := fun b o e => by
    by_cases hb : b = Dp
    · rw [hb]; exact DnI
    · exact itn _ _ (kp3 b o hb e)
  refine codeAny_forLoop (fun n s' => ∃ (i : Nat) (row : List Int) (x2 x3 : Option Int) (m' : Str → Option Value), i ≤ xs.length ∧ n = xs.length + 1 - i ∧ St i s'.heap ∧ Inv (sys w mg mb) 62 (cxRow Dp) 1 env (fun _ => False) sB F2 s'.heap (A.deeper env) (rr row x2 x3) s' (fun _ => False) m' ∧
    PenAt s'.heap Dp l cells (at0 + 1 + i) ∧ (∀ c ∈ row, c ∈ sorts) ∧ row.length = i ∧ (∀ b o, b ≠ Dp → s.heap.get? b = some o → s'.heap.get? b = some o)) ?_ (xs.length + 1)
    ⟨0, [], none, none, m2, Nat.zero_le _, rfl, hst, I4, by simpa using hp4, fun c h => absurd h (by simp), rfl, kp4⟩
  intro n' s' hJ
  refine hide fun X back => ?_
  obtain ⟨i, row, x2, x3, m', hi, hn, hst', I', hp', hrow, hlen, kp'⟩ := hJ
  have itl : It ≠ env.locals := fun q => by obtain ⟨o, e, _⟩ := ns_some I3.ns; exact itn _ _ e q.symm
  have itc : ∀ (n : Str) (c : Addr), env.cells.lookup n = some c → It ≠ c := fun n c h q => by obtain ⟨u, hu⟩ := I3.ce n c h; obtain ⟨o, e, _⟩ := cell_some hu; exact itn _ _ e q.symm
  have itB : sB.heap.get? It = none := by
    cases q : sB.heap.get? It with
    | none => rfl
    | some o => exact absurd rfl (itn It o (keeps_le I3.k _ _ q))
  have turned : ∀ (j : Nat) (h₁ : Heap) (tk : Nat), St j h₁ → (∀ b o, b ∉ [It] → s'.heap.get? b = some o → h₁.get? b = some o) → Inv (sys w mg mb) 62 (cxRow Dp) 1 env (fun _ => False) sB F2 h₁ (A.deeper env) (rr row x2 x3) { s' with heap := h₁, toks := tk } (fun _ => False) m' := by
    intro j h₁ tk hst₁ hk₁
    refine I'.change (z := It) (fun a o hne e => hk₁ a o (by simpa using hne) e) itB (fun h => h) (fun o e => ?_) itl itc (fun a h => ?_) (fun a o _ e => e) fl2 fc2 fun D' ho h => ?_
    · obtain ⟨oI, eI, tI⟩ := hlive _ _ hst'
      rw [eI] at e; cases e; exact tI.ns
    · by_cases hq : a = It
      · obtain ⟨oI, eI, tI⟩ := hlive _ _ hst₁
        exact ⟨oI, hq ▸ eI⟩
      · obtain ⟨o, e⟩ := I'.fa a h
        exact ⟨o, hk₁ a o (by simpa using hq) e⟩
    · obtain ⟨_, _, _, _, _, vs, n, q2, q3, q4, q5, _⟩ := ho
      exact q5 h
  refine back ?_
  clear back
  subst hn
  by_cases hlt : i < xs.length
  · refine W.item i s' _ _ hlt hst' fun v h₁ tk hPv hst₁ hk₁ => ?_
    have I1 := turned (i + 1) h₁ tk hst₁ hk₁
    have p1 : PenAt h₁ Dp l cells (at0 + 1 + i) := hp'.keep fun b o hb e => hk₁ b o (by
      rcases hb with rfl | rfl
      · simpa using DnI
      · obtain ⟨_, _, el, _⟩ := hp.li
        simpa using sIt _ _ el) e
    have kp1 : ∀ b o, b ≠ Dp → s.heap.get? b = some o → h₁.get? b = some o := fun b o hb e => hk₁ b o (by simpa using sIt b o e) (kp' b o hb e)
    refine hide fun X back => ?_
    obtain ⟨d, hd, hrd⟩ := hPi i v hPv
    obtain ⟨k, hk⟩ := hxs i d hd
    obtain ⟨tv, hv⟩ := int_inv (hk ▸ hrd)
    refine back ?_
    clear back hrd hd hPv
    subst hv
    have Fl : F2 l := .inl (by obtain ⟨_, _, el, _⟩ := hp.li; exact ⟨_, el⟩)
    have FD2 : F2 Dp := .inl FD
    have Dfp : Dp ∉ fp := by obtain ⟨t, n, e⟩ := hp3.ex; exact fpn _ _ e (fun vs n q => by simp at q)
    have penK : ∀ {h h' : Heap} {i : Int}, PenAt h Dp l cells i → (∀ b o, F2 b → h.get? b = some o → h'.get? b = some o) → PenAt h' Dp l cells i := fun p k => p.keep fun b o hb e => by
      rcases hb with rfl | rfl
      · exact k _ _ FD2 e
      · exact k _ _ Fl e
    refine wpAny_assign_Name (I1.put (k := 2) (slotOf_get sl.2.1) (isLC_of lc.2.1) (by decide) (d := .int k) (.int _ _) fun s3 m3 I5 hz => ?_)
    replace I5 : Inv (sys w mg mb) 62 (cxRow Dp) 1 env (fun _ => False) sB F2 h₁ (A.deeper env) (rr row (some k) x3) s3 (fun _ => False) m3 := I5
    have K5 : ∀ b o, F2 b → h₁.get? b = some o → s3.heap.get? b = some o := fun b o hb e => I5.fk b o hb e
    have p5 := penK p1 K5
    replace I5 := I5.now
    refine row_turn (G := fun b => wpAny (model prog w) (A.deeper env) (execs b env) _ _ s3) fun q1 q2 q3 q4 q5 q6 q7 q8 => ?_
    have hsd : theGT.dat.lookup (Str.ofString "_law_sorts") = some (.tuple (sorts.map .int)) := by kernel_rfl
    refine wpAny_execs_cons (wpAny_Assign_Name (Subscript_ ((r_dat (cx := (cxRow Dp).mask 1) I5.ctxM gl.2.2 hsd (by decide +kernel)).bind fun vt s6 k6 rt => ?_)) (row_sw ..))
    have I6 := (I5.same k6).now
    have p6 := penK p5 fun b o _ e => keeps_le k6 _ _ e
    refine draw_eval I6 (by decide) (fun _ _ _ e => e) gl.2.1 hpmem hpdbg p6 FD2 hDB (fun h => h) (by omega) (by omega) (by decide) fun r' tr' h7 tk7 r0' r1' I7 p7 k7 => ?_
    obtain ⟨c, hc, hget⟩ := sort_at r0' r1'
    have rt7 : Rd (fun _ => False) h7 vt (.tuple (sorts.map .int)) := (Rd.flat (P' := fun _ => False) rt (by decide)).mono (fun _ _ _ p => p) fun a o e h => k7 a o (fun q => by
      subst q
      rcases h with h | ⟨vs, n, h⟩
      · exact h
      · obtain ⟨t, n', e'⟩ := p6.ex
        rw [e'] at e; cases e; simp at h) e
    refine EvOk.bind (wpAny_idxD rt7 (.int _ _) (s := { s6 with heap := h7, toks := tk7 }) (by exact hget)) fun vc s8 k8 rc => ?_
    obtain ⟨tc, ec⟩ := int_inv rc
    subst ec
    have I8 := (I7.same k8).now
    have p8 := penK p7 fun b o _ e => keeps_le k8 _ _ e
    refine I8.put (k := 3) (slotOf_get sl.2.2) (isLC_of lc.2.2) (by decide) (d := .int c) (.int _ _) fun s9 m9 I9 hz => ?_
    replace I9 : Inv (sys w mg mb) 62 (cxRow Dp) 1 env (fun _ => False) sB F2 s8.heap (A.deeper env) (rr row (some k) (some c)) s9 (fun _ => False) m9 := I9
    have K9 : ∀ b o, F2 b → s8.heap.get? b = some o → s9.heap.get? b = some o := fun b o hb e => I9.fk b o hb e
    have p9 := penK p8 K9
    replace I9 := I9.now
    obtain ⟨c', hc', hrL⟩ := row_go (Γs 62) row (some k) c hc (by omega)
    refine run_list ((stmts_sound snd 40).2 _ _ _ _ _ (row_rest Dp)) hrL I9 fun s10 P10 m10 I10 => ?_
    have K10 : ∀ b o, F2 b → s9.heap.get? b = some o → s10.heap.get? b = some o := fun b o hb e => I10.fk b o hb e
    have p10 := penK p9 K10
    have KF : ∀ b o, F2 b → b ≠ Dp → h₁.get? b = some o → s10.heap.get? b = some o := fun b o hb hn e => K10 b o hb (K9 b o hb (keeps_le k8 _ _ (k7 b o hn (keeps_le k6 _ _ (K5 b o hb e)))))
    refine ⟨xs.length + 1 - (i + 1), by omega, i + 1, row ++ [c'], some k, some c', m10, hlt, rfl, W.frame _ _ _ hst₁ fun b hb o e => KF b o (.inr hb) (fun q => Dfp (q ▸ hb)) e, (I10.toFlat (rr_flat _ _ _)).now, ?_, ?_, by simp [hlen], fun b o hb e => KF b o (.inl ⟨o, e⟩) hb (kp1 b o hb e)⟩
    · have : at0 + 1 + ((i + 1 : Nat) : Int) = at0 + 1 + i + 1 := by omega
      rw [this]; exact p10
    · intro x hx
      rcases List.mem_append.mp hx with hx | hx
      · exact hrow x hx
      · simp at hx; subst hx; exact hc'
  · have hin : i = xs.length := by omega
    subst hin
    refine W.done s' _ _ hst' fun h₁ tk hk₁ => ?_
    have I1 : Inv (sys w mg mb) 62 (cxRow Dp) 1 env (fun _ => False) sB (fun a => ∃ o, s.heap.get? a = some o) h₁ (A.deeper env) (rr row x2 x3) { s' with heap := h₁, toks := tk } (fun _ => False) m' := by
      refine I'.change (z := It) (fun a o hne e => hk₁ a o (by simpa using hne) e) itB (fun h => h) (fun o e => ?_) itl itc (fun a ⟨o, e⟩ => ?_) (fun a o _ e => e) I3.fl I3.fc fun D' ho h => ?_
      · obtain ⟨oI, eI, tI⟩ := hlive _ _ hst'
        rw [eI] at e; cases e; exact tI.ns
      · obtain ⟨o', e'⟩ := I'.fa a (.inl ⟨o, e⟩)
        exact ⟨o', hk₁ a o' (by simpa using sIt a o e) e'⟩
      · obtain ⟨_, _, _, _, _, vs, n, q2, q3, q4, q5, _⟩ := ho
        exact q5 (.inl h)
    have p1 : PenAt h₁ Dp l cells (at0 + 1 + xs.length) := hp'.keep fun b o hb e => hk₁ b o (by
      rcases hb with rfl | rfl
      · simpa using DnI
      · obtain ⟨_, _, el, _⟩ := hp.li
        simpa using sIt _ _ el) e
    have kp1 : ∀ b o, b ≠ Dp → s.heap.get? b = some o → h₁.get? b = some o := fun b o hb e => hk₁ b o (by simpa using sIt b o e) (kp' b o hb e)
    refine wpAny_execs_nil ?_
    refine hide fun X back => ?_
    obtain ⟨Dr, ys, ey, hsl, vs, n, v1, v2, v3, v4, v5, v6, v7⟩ := I1.so _ _ (slotOf_get sl.1) rfl
    have hnone : s.heap.get? Dr = none := by
      cases q : s.heap.get? Dr with
      | none => rfl
      | some o => exact absurd ⟨o, q⟩ v4
    refine back ?_
    clear back
    cases ey
    refine wpAny_execs_cons (wpAny_Return_some (wpAny_Name (load_slot I1.e I1.ns hsl ?_) (by decide +kernel)))
    exact keeps_with kB I'.k h₁ tk ▸ hQ Dr row vs n h₁ tk _ hrow (by omega) hnone v1 v5 v6 p1 (by omega) (by omega) kp1
end
end Mine
end

section
open PySem PyProof.Rows PySem.W
open PySem.Calls Builtin Builtin.ObjectAttr
set_option Elab.async false
set_option linter.unusedVariables false
set_option linter.unusedSimpArgs false
set_option maxRecDepth 100000
namespace Mine
section
variable {prog : Program} {w : World} {A : Around} {K : Frag} {s : Shared} {E : Value → Shared → Prop}

/-- an attribute of an object of the text's own is set: its dict alone changes -/
theorem set_attr {x dx C : Addr} {es es' : List DictEntry} {n : Nat} {name : Str} {v : Value} {Q : Unit → Shared → Prop} (X : K.In s.heap) (hx : s.heap.get? x = some (instObj C dx)) (hd : s.heap.get? dx = some (dictOf es n))
    (hs : findIn K (.ref C) "__setattr__" = some (some (.builtin "object.__setattr__"))) (hp : plainOver K C = true) (ht : takerIn K C name = some none) (hh : (clsIn K C).any (·.hasDict) = true) (hfree : es.any (·.refKey) = false)
    (he : putL name (PyData.keyHash w.params name) (.str name (s.toks + 1)) v es = es') (hz : es'.length ≤ 1000)
    (hQ : ∀ h' n', h'.get? dx = some (dictOf es' n') → Heap.SameBut dx s.heap h' → Q () { s with heap := h', toks := s.toks + 2 }) : wpAny (model prog w) A (setAttr (.ref x) name v) Q E s := by
  have I : InstAt s.heap x (instObj C dx) C (some (dictOf es n)) := inst_tab hx hd
  refine set_plain X I hs (osa_open (s := { s with toks := s.toks + 1 }) X I hp ht fun b => ?_)
  obtain ⟨cd, hc, hcd⟩ := any_some hh
  have hput := putName_dict name (PyData.keyHash w.params name) (.str name (s.toks + 1)) v es n
  rw [he] at hput
  have hnew : (s.heap.update dx (Obj.putName name (PyData.keyHash w.params name) (.str name (s.toks + 1)) v)).get? dx = some (dictOf es' (putN name es n)) := by
    rw [Heap.get?_update_self _ hd (by rw [hput]; rfl), hput]
  have hq := hQ _ _ hnew (Heap.SameBut.update ..)
  have hk : aRefKeyMayBeTheName name es.toArray = false := by
    rw [aRefKeyMayBeTheName_at, ← Array.any_toList, ← Array.any_toList]
    show (_ && es.any (·.refKey)) = false
    rw [hfree, Bool.and_false]
  have X' : K.In ({ s with toks := s.toks + 1 } : Shared).heap := X
  refine wpAny_bind (wpAny_pure (wpAny_bind (wpAny_bind (wpAny_loadPart hx (wpAny_bind ((looks_clsIn X' hc).here ?_))))))
  rw [hcd]
  refine wpAny_pure (a := some dx) (wpAny_bind (wpAny_pure (wpAny_bind ?_)))
  unfold nsSet
  refine wpAny_bind (wpAny_bind (wpAny_askSetting (wpAny_pure (wpAny_bind (wpAny_mkText (wpAny_bind (wpAny_loadPart hd ?_)))))))
  show wpAny _ _ (if aRefKeyMayBeTheName name es.toArray = true then _ else _) _ _ _
  rw [hk]
  refine wpAny_updatePart hd ?_
  refine wpAny_bind (wpAny_lookBehind hnew (pastItsLine_dict (by rw [List.size_toArray, sizeLine_eq]; omega)) ?_)
  exact wpAny_pure hq
end
end Mine
end

section
open PySem PyProof.Rows PySem.W
set_option Elab.async false
set_option linter.unusedVariables false
set_option linter.unusedSimpArgs false
set_option maxRecDepth 100000
namespace Mine

noncomputable def dInit : DefOf := ofMeth "__init__"
noncomputable abbrev cxInit (x : Addr) : Cx := { names := dInit.names, slots := [none, some (Str.ofString "wide"), some (Str.ofString "marks"), some (Str.ofString "joiners"), some (Str.ofString "ranges"), none, none, none], pins := [(Str.ofString "self", .ref x)] }
section
variable {w : World} {mg mb : Str → Option Value} {prog : Program}
theorem at_init : FnAt (sys w mg mb) 83 dInit.ps dInit.body (cxOf dInit) := at_of rfl (by kernel_rfl) (by kernel_rfl) (fun vals hv => by
  obtain ⟨a, r1, q1, h1⟩ := len_succ (n := 3) hv
  obtain ⟨b, r2, q2, h2⟩ := len_succ h1
  obtain ⟨c, r3, q3, h3⟩ := len_succ h2
  obtain ⟨d, q4⟩ := List.length_eq_one_iff.mp h3
  rw [q1, q2, q3, q4]
  rfl)
noncomputable def initFor : Stmt := (dInit.body[0]?).getD (.Pass ⟨0, 0, 0, 0⟩)
theorem init_body : ∃ p1 p2 p3 p4 p5 p6 p7 p8 p9 p10 p11 p12, dInit.body = [initFor, .Assign [.Attribute (.Name (Str.ofString "self") p1) (Str.ofString "wide") p2] (.Name (Str.ofString "wide") p3) p4,
    .Assign [.Attribute (.Name (Str.ofString "self") p5) (Str.ofString "marks") p6] (.Name (Str.ofString "marks") p7) p8, .Assign [.Attribute (.Name (Str.ofString "self") p9) (Str.ofString "joiners") p10] (.Name (Str.ofString "joiners") p11) p12] :=
  ⟨_, _, _, _, _, _, _, _, _, _, _, _, rfl⟩
noncomputable def msInit : MS := .for1 4 (.tup [.var 1, .var 2, .var 3]) [.drop (.call 69 [.var 4])]
theorem init_for (x : Addr) : cS theGT 40 5 (cxInit x) 99 initFor = some msInit := by kernel_rfl
theorem init_nd (x : Addr) : ∀ (k k' : Nat) (y : Str), (cxInit x).slots[k]? = some (some y) → (cxInit x).slots[k']? = some (some y) → k = k' := ndB_spec (l := [none, some (Str.ofString "wide"), some (Str.ofString "marks"), some (Str.ofString "joiners"), some (Str.ofString "ranges"), none, none, none]) (by decide +kernel)
theorem init_free (x : Addr) : ∀ k : Nat, (cxInit x).slots[k]? ≠ some (some (Str.ofString "self")) := by
  intro k h
  have := List.mem_of_getElem? h
  revert this
  show ¬ (some (Str.ofString "self") ∈ [none, some (Str.ofString "wide"), some (Str.ofString "marks"), some (Str.ofString "joiners"), some (Str.ofString "ranges"), none, none, none])
  decide +kernel
theorem init_kinds : dInit.names.lookup (Str.ofString "self") = some .local ∧ dInit.names.lookup (Str.ofString "wide") = some .local ∧ dInit.names.lookup (Str.ofString "marks") = some .local ∧ dInit.names.lookup (Str.ofString "joiners") = some .local := by
  refine ⟨?_, ?_, ?_, ?_⟩ <;> kernel_rfl

theorem init_run {Γ : Ctab} {a b c : PyData} (h1 : Γ 69 [.dat a] = some .none) (h2 : Γ 69 [.dat b] = some .none) (h3 : Γ 69 [.dat c] = some .none) :
    rS Γ 99 msInit [none, some (.dat a), some (.dat b), some (.dat c), none, none, none, none] = some (.nxt [none, some (.dat a), some (.dat b), some (.dat c), some (.dat c), none, none, none]) := by
  simp [msInit, rS_asg, rS_unp, rS_own, rS_own2, rS_aug, rS_ret, rS_ite, rS_for1, rS_whl, rS_push, rS_ext, rS_err, rS_drop, rS_forE, rS_forZ, rS_setL, rL_nil, rL_cons_, evP_lit, evP_var, evP_bin, evP_neg, evP_not, evP_and, evP_or, evP_ite, evP_list, evP_tup, evP_cmp, evP_cmp2, evP_idx, evP_sl, evP_rev, evP_call, evP_meth, evP_attr, evP_len, evP_sum, evP_sumL, evP_toInt, evP_toList, evP_toTup, evP_comp, evP_rng, evDs_nil, evDs_cons_, evAs_nil, evAs_cons_, varOf_lit, varOf_var, varOf_bin, varOf_neg, varOf_not, varOf_and, varOf_or, varOf_ite, varOf_list, varOf_tup, varOf_cmp, varOf_cmp2, varOf_idx, varOf_sl, varOf_rev, varOf_call, varOf_meth, varOf_attr, varOf_len, varOf_sum, varOf_sumL, varOf_toInt, varOf_toList, varOf_toTup, varOf_comp, varOf_rng, valAt, datAt, items_1, items_2, forGo, h1, h2, h3]

theorem cls_facts (w : World) : findIn (KK w.params) (.ref 100) "__setattr__" = some (some (.builtin "object.__setattr__")) ∧ plainOver (KK w.params) 100 = true ∧ (clsIn (KK w.params) 100).any (·.hasDict) = true ∧
    takerIn (KK w.params) 100 (Str.ofString "wide") = some none ∧ takerIn (KK w.params) 100 (Str.ofString "marks") = some none ∧ takerIn (KK w.params) 100 (Str.ofString "joiners") = some none := by
  refine ⟨?_, ?_, ?_, ?_, ?_, ?_⟩ <;> kernel_rfl
theorem cls_make (w : World) : makesIn (KK w.params) 100 = true ∧ findIn (KK w.params) (.ref 100) "__init__" = some (some (.ref 83)) ∧ typeIn (KK w.params) (.ref 83) = some (.type "function") := by
  refine ⟨?_, ?_, ?_⟩ <;> kernel_rfl

theorem key_ne : (Str.ofString "wide" == Str.ofString "marks") = false ∧ (Str.ofString "wide" == Str.ofString "joiners") = false ∧ (Str.ofString "marks" == Str.ofString "joiners") = false := by
  refine ⟨?_, ?_, ?_⟩ <;> decide +kernel

theorem room_type {L : Nat} {A : Around} {C : Addr} {a : List Value} {kw : List (Str × Value)} (R : Room (L + 1) A) : Room L (A.under (.builtin "type.__call__" ⟨.ref C :: a, kw⟩)) := by
  have h1 : (Code.builtin "type.__call__" ⟨.ref C :: a, kw⟩).weight = 1 := by rfl
  have h2 : (Code.builtin "type.__call__" ⟨.ref C :: a, kw⟩).cUnits = 1 := by rfl
  have hd := R.depth
  have hu := R.units
  refine ⟨R.hd, ?_, ?_⟩
  · show A.depth + (Code.builtin "type.__call__" ⟨.ref C :: a, kw⟩).weight + L ≤ 900
    rw [h1]; omega
  · show A.units + (Code.builtin "type.__call__" ⟨.ref C :: a, kw⟩).cUnits + 3 * L ≤ 9000
    rw [h2]; omega

theorem putL_skip {name : Str} {hsh : Int} {key v : Value} {e : DictEntry} {r : List DictEntry} (h : e.key.isStr name = false) : putL name hsh key v (e :: r) = e :: putL name hsh key v r := by
  rw [putL, if_neg (by rw [h]; decide)]

/-- self.name = name -/
theorem init_set {A : Around} {env : Env} {s : Shared} {m : Str → Option Value} {x dx : Addr} {es : List DictEntry} {n : Nat} {name : Str} {v : Value} {p1 p2 p3 p4 : Pos} {E : Value → Shared → Prop} {Q : Flow → Shared → Prop} (he : EnvOk (cxInit x) env) (hn : s.heap.Ns env.locals m)
    (ms : m (Str.ofString "self") = some (.ref x)) (mv : m name = some v) (hk : dInit.names.lookup name = some .local) (hdbg : (name == ("__debug__" : Str)) = false) (X : (KK w.params).In s.heap) (hx : s.heap.get? x = some (instObj 100 dx)) (hdx : s.heap.get? dx = some (dictOf es n))
    (ht : takerIn (KK w.params) 100 name = some none) (hfree : es.any (·.refKey) = false) (hz : es.length ≤ 900) (hl : env.locals ≠ dx)
    (hQ : ∀ h' n' tk tk0, h'.get? dx = some (dictOf (putL name (PyData.keyHash w.params name) (.str name tk0) v es) n') → Heap.SameBut dx s.heap h' → h'.Ns env.locals m → Q .next { s with heap := h', toks := tk }) :
    wpAny (model prog w) A (exec (.Assign [.Attribute (.Name (Str.ofString "self") p1) name p2] (.Name name p3) p4) env) Q E s := by
  obtain ⟨c1, c2, c3, _⟩ := cls_facts w
  have hko := kindOf_eq he
  refine plainObj_wpAny_Assign_Attribute (wpAny_Name (wpAny_loadName_local he.kind ((hko _).trans hk) hn mv ?_) hdbg) rfl
  refine wpAny_Name (wpAny_loadName_local he.kind ((hko _).trans init_kinds.1) hn ms ?_) (by decide +kernel)
  refine set_attr X hx hdx c1 c2 ht c3 hfree rfl ?_ fun h' n' hd' hs => hQ _ _ _ _ hd' hs (hn.sameBut hs hl)
  have : ∀ (l : List DictEntry) (a : Int) (b c : Value), (putL name a b c l).length ≤ l.length + 1 := by
    intro l a b c
    induction l with
    | nil => simp [putL]
    | cons e r ih =>
      rw [putL]
      split
      · simp
      · simp only [List.length_cons]; omega
  have := this es (PyData.keyHash w.params name) (.str name (s.toks + 1)) v
  omega

/-- a table of widths is made -/
theorem table_ok {A : Around} {s : Shared} {P : Addr → Prop} {v1 v2 v3 : Value} {a b c : PyData} {R' : Result → Shared → Prop} (R : Room 64 A) (hB : Base (sys w mg mb) s.heap) (r1 : Rd P s.heap v1 a) (r2 : Rd P s.heap v2 b) (r3 : Rd P s.heap v3 c)
    (g1 : Γs 62 69 [.dat a] = some .none) (g2 : Γs 62 69 [.dat b] = some .none) (g3 : Γs 62 69 [.dat c] = some .none)
    (hR : ∀ x s', Keeps s s' → TabAt (sys w mg mb) (Up P s) s'.heap (.ref x) a b c → R' (.ok (.ret (.ref x))) s') :
    codeAny (model prog w) A (.call (.ref 100) ⟨[v1, v2, v3], []⟩) R' s := by
  refine hide fun X back => ?_
  obtain ⟨m1, m2, m3⟩ := cls_make w
  obtain ⟨c1, c2, c3, c4, c5, c6⟩ := cls_facts w
  refine back ?_
  clear back
  obtain ⟨hh, g, d, t, os⟩ := s
  refine make_core (makes_of hB.kin m1) (looks_findIn hB.kin m2) (fun self => bind_fn hB.kin self m3) (.inl rfl) ?_
  generalize hx : hh.objs.size + 1 = x
  have hI : ((hh.push emptyDict).push (instObj 100 hh.objs.size)).get? x = some (instObj 100 hh.objs.size) := by rw [← hx]; heap_get
  have hDx : ((hh.push emptyDict).push (instObj 100 hh.objs.size)).get? hh.objs.size = some (dictOf [] 0) := by heap_get
  have le0 : Le hh ((hh.push emptyDict).push (instObj 100 hh.objs.size)) := (Le.push _ _).trans (Le.push _ _)
  have nx : hh.get? x = none := by
    cases q : hh.get? x with
    | none => rfl
    | some o => exact absurd (Heap.lt_size q) (by rw [← hx]; exact Nat.not_lt.mpr (Nat.le_succ _))
  have nd : hh.get? hh.objs.size = none := fresh_size hh
  have nxd : x ≠ hh.objs.size := fun q => Nat.succ_ne_self _ (hx.trans q)
  generalize hdx : hh.objs.size = dx at *
  generalize hs0 : (⟨(hh.push emptyDict).push (instObj 100 dx), g, d, t, os⟩ : Shared) = s0
  have hI0 : s0.heap.get? x = some (instObj 100 dx) := by rw [← hs0]; exact hI
  have hD0 : s0.heap.get? dx = some (dictOf [] 0) := by rw [← hs0]; exact hDx
  have k0 : Keeps ⟨hh, g, d, t, os⟩ s0 := by rw [← hs0]; exact ⟨_, _, rfl, le0⟩
  have hB0 := hB.keeps (keeps_le k0)
  refine pin_frame (S := sys w mg mb) (L := 62) (ow := 99) (cx' := cxInit x) (ρ' := List.replicate 8 none) (k := 83) (sB := s0) at_init rfl (init_nd x) (fun k X h => ?_) (fun y u h => ?_) (room_type R) (keeps_refl _) hB0 rfl fun env s₁ m k1 I hsl => ?_
  · unfold valAt at h
    rw [List.getElem?_replicate] at h
    split at h <;> simp_all
  · have h := List.mem_singleton.mp h
    cases h
    exact ⟨⟨0, by kernel_rfl, rfl⟩, init_free x⟩
  refine hide fun X back => ?_
  obtain ⟨p1, p2, p3, p4, p5, p6, p7, p8, p9, p10, p11, p12, hbody⟩ := init_body
  refine back ?_
  clear back
  rw [hbody]
  have snd := fun n => sound (S := sys w mg mb) (prog := prog) (w := w) (L := 62) (Γ := Γs 62) (goodS 62) n
  have k01 := keeps_trans k0 k1
  let P' : Addr → Prop := fun q => P q ∧ ∃ o, hh.get? q = some o
  have rep : ∀ {v d}, Rd P hh v d → Rd P' s₁.heap v d := fun r => r.mono (fun a o e p => ⟨p, o, e⟩) (.of_le (keeps_le k01))
  have I0 : Inv (sys w mg mb) 62 (cxInit x) 99 env P' s0 (fun a => ∃ o, s0.heap.get? a = some o) s₁.heap (Around.deeper (A.under (.builtin "type.__call__" ⟨.ref 100 :: [v1, v2, v3], []⟩)) env) [none, some (.dat a), some (.dat b), some (.dat c), none, none, none, none] s₁ P' m := by
    refine I.remake rfl (keeps_refl _) hB0 (init_nd x) I.fa (fun a o _ e => e) I.fl I.fc (fun a h => .inl h) (fun a h => let ⟨o, e⟩ := h.2; ⟨o, keeps_le k01 _ _ e⟩) (fun h => ?_) (fun n c h q => ?_) (fun k y X hk e1 e2 => ?_) (fun y X e1 e2 => ?_) I.pin
    · obtain ⟨o, e⟩ := h.2
      exact I.fl ⟨o, keeps_le k0 _ _ e⟩
    · obtain ⟨o, e⟩ := q.2
      exact I.fc n c h ⟨o, keeps_le k0 _ _ e⟩
    · match k, e1, e2 with
      | 0, e1, e2 => simp at e1
      | 1, e1, e2 => simp at e1; subst e1; simp [valAt] at e2; subst e2; exact ⟨v1, hsl 1 _ _ (by kernel_rfl) rfl, rep r1⟩
      | 2, e1, e2 => simp at e1; subst e1; simp [valAt] at e2; subst e2; exact ⟨v2, hsl 2 _ _ (by kernel_rfl) rfl, rep r2⟩
      | 3, e1, e2 => simp at e1; subst e1; simp [valAt] at e2; subst e2; exact ⟨v3, hsl 3 _ _ (by kernel_rfl) rfl, rep r3⟩
      | 4, e1, e2 => simp [valAt] at e2
      | 5, e1, e2 => simp at e1
      | 6, e1, e2 => simp at e1
      | 7, e1, e2 => simp at e1
      | k + 8, e1, e2 => simp at e1
    · simp [valAt] at e2
  refine wpAny_execs_cons (wpAny_mono ((stmts_sound snd 40).1 _ _ _ _ _ (init_for x) _ _ env _ s0 _ _ _ s₁ _ m _ (init_run g1 g2 g3) I0) (fun f s2 hp => ?_) fun _ _ x => x)
  obtain ⟨rfl, P2, m2', I2⟩ := hp
  obtain ⟨kn0, kn1, kn2, kn3⟩ := init_kinds
  obtain ⟨vw, hw1, rw1⟩ := I2.sl 1 (Str.ofString "wide") (.dat a) (by decide) rfl rfl
  obtain ⟨vm, hm1, rm1⟩ := I2.sl 2 (Str.ofString "marks") (.dat b) (by decide) rfl rfl
  obtain ⟨vj, hj1, rj1⟩ := I2.sl 3 (Str.ofString "joiners") (.dat c) (by decide) rfl rfl
  have mw := slot_local I2.e kn1 hw1
  have mm := slot_local I2.e kn2 hm1
  have mj := slot_local I2.e kn3 hj1
  have mself := slot_local I2.e kn0 (I2.pin _ _ (List.mem_singleton.mpr rfl)).1
  have xI := I2.fk x _ ⟨_, hI0⟩ (keeps_le k1 _ _ hI0)
  have xD := I2.fk dx _ ⟨_, hD0⟩ (keeps_le k1 _ _ hD0)
  have hl : env.locals ≠ dx := fun q => I2.fl ⟨_, q ▸ hD0⟩
  have le2 : Le s0.heap s2.heap := keeps_le I2.k
  have X2 := hB0.kin.keeps le2
  have Ks : ∀ {h : Heap}, (∀ b o, b ≠ dx → s2.heap.get? b = some o → h.get? b = some o) → (KK w.params).In h := fun k => hB.kin.keeps fun b o e => k b o (fun q => by rw [q, nd] at e; cases e) (le2 _ _ (keeps_le k0 _ _ e))
  obtain ⟨n1, n2, n3⟩ := key_ne
  refine wpAny_execs_cons (init_set (m := m2') I2.e I2.ns mself mw kn1 (by decide +kernel) X2 xI xD c4 rfl (by decide) hl fun h3 n3' tk3 tk3' d3 s3 ns3 => ?_)
  have k3 : ∀ b o, b ≠ dx → s2.heap.get? b = some o → h3.get? b = some o := fun b o hb e => s3.extBut b o hb e
  have d3' : h3.get? dx = some (dictOf [⟨PyData.keyHash w.params (Str.ofString "wide"), .str (Str.ofString "wide") tk3', vw⟩] n3') := d3
  refine wpAny_execs_cons (init_set (m := m2') (s := { s2 with heap := h3, toks := tk3 }) I2.e ns3 mself mm kn2 (by decide +kernel) (Ks k3) (k3 _ _ nxd xI) d3' c5 rfl (by simp) hl fun h4 n4 tk4 tk4' d4 s4 ns4 => ?_)
  have k4 : ∀ b o, b ≠ dx → s2.heap.get? b = some o → h4.get? b = some o := fun b o hb e => s4.extBut b o hb (k3 b o hb e)
  rw [putL_skip (by exact n1)] at d4
  have d4' : h4.get? dx = some (dictOf [⟨PyData.keyHash w.params (Str.ofString "wide"), .str (Str.ofString "wide") tk3', vw⟩, ⟨PyData.keyHash w.params (Str.ofString "marks"), .str (Str.ofString "marks") tk4', vm⟩] n4) := d4
  refine wpAny_execs_cons (init_set (m := m2') (s := { s2 with heap := h4, toks := tk4 }) I2.e ns4 mself mj kn3 (by decide +kernel) (Ks k4) (k4 _ _ nxd xI) d4' c6 rfl (by simp) hl fun h5 n5 tk5 tk5' d5 s5 ns5 => ?_)
  have k5 : ∀ b o, b ≠ dx → s2.heap.get? b = some o → h5.get? b = some o := fun b o hb e => s5.extBut b o hb (k4 b o hb e)
  rw [putL_skip (by exact n2), putL_skip (by exact n3)] at d5
  have d5' : h5.get? dx = some (dictOf [⟨PyData.keyHash w.params (Str.ofString "wide"), .str (Str.ofString "wide") tk3', vw⟩, ⟨PyData.keyHash w.params (Str.ofString "marks"), .str (Str.ofString "marks") tk4', vm⟩, ⟨PyData.keyHash w.params (Str.ofString "joiners"), .str (Str.ofString "joiners") tk5', vj⟩] n5) := d5
  have nP : ¬ P2 dx := fun h => by
    rcases I2.pu _ h with q | q
    · obtain ⟨o, e⟩ := q.2; rw [nd] at e; cases e
    · rw [hD0] at q; cases q
  have up : ∀ {v q}, Rd P2 s2.heap v q → Rd (Up P ⟨hh, g, d, t, os⟩) h5 v q := fun r => r.mono (fun a o e p => by
    rcases I2.pu _ p with q | q
    · exact .inl q.1
    · right
      cases z : hh.get? a with
      | none => rfl
      | some o => have := keeps_le k0 _ _ z; rw [q] at this; cases this) fun a o e h => k5 a o (fun q => by
    subst q
    rcases h with h | ⟨vs, n, h⟩
    · exact nP h
    · rw [xD] at e; cases e; simp at h) e
  refine wpAny_execs_nil ⟨rfl, hR x _ ?_ ⟨x, dx, vw, vm, vj, n5, _, _, _, _, _, _, rfl, .inr nx, .inr nd, k5 _ _ nxd xI, d5', up rw1, up rm1, up rj1⟩⟩
  obtain ⟨h2, t2, e2, l2⟩ := keeps_trans k0 I2.k
  refine ⟨h5, tk5, by rw [e2], fun b o e => k5 b o (fun q => by
    have e : hh.get? b = some o := e
    rw [q, nd] at e; cases e) ?_⟩
  rw [e2]
  exact l2 b o e
end
end Mine
end

section
open PySem PyProof.Rows PySem.W
set_option Elab.async false
set_option linter.unusedVariables false
set_option linter.unusedSimpArgs false
set_option maxRecDepth 100000
namespace Mine

noncomputable def dLaw : DefOf := ofName "law"
noncomputable def lawS (i : Nat) : Stmt := (dLaw.body[i]?).getD (.Pass ⟨0, 0, 0, 0⟩)
noncomputable def lawTail : List Stmt := dLaw.body.drop 5
noncomputable abbrev nm (s : String) : Str := Str.ofString s
noncomputable abbrev cxLaw (pins : List (Str × Value)) : Cx := { names := dLaw.names, slots := [none, none, some (nm "wide"), some (nm "ranges"), some (nm "table"), some (nm "row"), some (nm "given"), some (nm "parts"), some (nm "most"), some (nm "code"), some (nm "part"), some (nm "takes"), some (nm "due"), some (nm "colours"), some (nm "many"), some (nm "begun"), some (nm "ended"), none, none, none], pins := pins }
section
variable {w : World} {mg mb : Str → Option Value} {prog : Program}
theorem at_law : FnAt (sys w mg mb) 218 dLaw.ps dLaw.body (cxOf dLaw) := at_of rfl (by kernel_rfl) (by kernel_rfl) (bind1 (by kernel_rfl) (fun _ => rfl))
theorem law_body : dLaw.body = lawS 0 :: lawS 1 :: lawS 2 :: lawS 3 :: lawS 4 :: lawTail := rfl

noncomputable def meCell : ME := .bin .mod (.toInt (.var 17)) (.bin .pow (.lit (.int 10)) (.lit (.int 9)))
theorem law_s0 : ∃ elt scope p1 p2 p3 p4 p5 p6 p7 p8 p9 p10, lawS 0 = .Assign [.Name (nm "pen") p1] (.List [.ListComp elt [⟨.Name (nm "cell") p2, .Subscript (.Name (nm "script") p3) (.Slice none (some (.Constant (.int 63) 0 p4)) none p5) p6, [], 0⟩] scope p7, .Constant (.int 0) 0 p8] p9) p10
    ∧ compOk ((cxLaw []).mask 12) scope (nm "cell") = true ∧ cE theGT 40 18 (compCx ((cxLaw []).mask 12) 17 scope.names (nm "cell")) elt = some meCell :=
  ⟨_, _, _, _, _, _, _, _, _, _, _, _, rfl, by kernel_rfl, by kernel_rfl⟩
theorem law_s1 : ∃ p1 p2 p3 p4 p5 p6 p7 p8 p9 p10, lawS 1 = .Assign [.Tuple [.Name (nm "wide") p1, .Name (nm "ranges") p2] 0 p3] (.Call (.Name (nm "_law_wide") p4) [.Call (.Name (nm "_law_draw") p5) [.Name (nm "pen") p6, .Constant (.int 3) 0 p7] [] p8] [] p9) p10 :=
  ⟨_, _, _, _, _, _, _, _, _, _, rfl⟩
noncomputable def mesTable : List ME := [.var 3, .list [.tup [.lit (.int 768), .lit (.int 879)], .tup [.lit (.int 8205), .lit (.int 8205)], .tup [.lit (.int 8419), .lit (.int 8419)], .tup [.lit (.int 65039), .lit (.int 65039)]], .list [.tup [.lit (.int 10084), .lit (.int 10084)], .tup [.lit (.int 128000), .lit (.int 128015)]]]
theorem law_s2 (pins : List (Str × Value)) : ∃ e r p1 p2 p3 p4, lawS 2 = .Assign [.Name (nm "table") p1] (.Call (.Name (nm "WidthTable") p2) (e :: r) [] p3) p4 ∧ mapO (cE theGT 40 17 ((cxLaw pins).mask 12)) (e :: r) = some mesTable :=
  ⟨_, _, _, _, _, _, rfl, by kernel_rfl⟩
theorem law_s3 : ∃ p1 p2 p3 p4 p5, lawS 3 = .Assign [.Name (nm "row") p1] (.Call (.Name (nm "_law_row") p2) [.Name (nm "pen") p3] [] p4) p5 := ⟨_, _, _, _, _, rfl⟩
theorem law_s4 (pins : List (Str × Value)) : ∃ ts e1 e2 p4 p5 p6 p7 p8 p9 p10, lawS 4 = .Assign [.Tuple ts 0 p4] (.Tuple [e1, e2, .Call (.Name (nm "_law_draw") p5) [.Name (nm "pen") p6, .Constant (.int 9) 0 p7] [] p8] 0 p9) p10 ∧
    allK (cxLaw pins) ts = some [6, 7, 8] ∧ swapOk ts [e1, e2, .Call (.Name (nm "_law_draw") p5) [.Name (nm "pen") p6, .Constant (.int 9) 0 p7] [] p8] = true ∧ cE theGT 40 17 ((cxLaw pins).mask 12) e1 = some (.toList (.var 5)) ∧ cE theGT 40 17 ((cxLaw pins).mask 12) e2 = some (.call 203 [.var 5]) :=
  ⟨_, _, _, _, _, _, _, _, _, _, rfl, by kernel_rfl, by kernel_rfl, by kernel_rfl, by kernel_rfl⟩

theorem law_nd (pins : List (Str × Value)) : ∀ (k k' : Nat) (x : Str), (cxLaw pins).slots[k]? = some (some x) → (cxLaw pins).slots[k']? = some (some x) → k = k' := ndB_spec (l := (cxLaw []).slots) (by decide +kernel)
theorem law_free (pins : List (Str × Value)) (x : Str) (h : (some x ∈ (cxLaw []).slots) = False) : ∀ k : Nat, (cxLaw pins).slots[k]? ≠ some (some x) := by
  intro k e
  have : some x ∈ (cxLaw []).slots := List.mem_of_getElem? e
  rw [h] at this; exact this
theorem law_pen_free (pins : List (Str × Value)) : ∀ k : Nat, (cxLaw pins).slots[k]? ≠ some (some (nm "pen")) := law_free pins _ (by decide +kernel)
theorem law_lc (pins : List (Str × Value)) : (cxLaw pins).names.lookup (nm "pen") = some .local ∧ (cxLaw pins).names.lookup (nm "wide") = some .cell ∧ (cxLaw pins).names.lookup (nm "ranges") = some .local ∧ (cxLaw pins).names.lookup (nm "table") = some .cell ∧ (cxLaw pins).names.lookup (nm "row") = some .local := by
  refine ⟨?_, ?_, ?_, ?_, ?_⟩ <;> kernel_rfl
theorem law_gl (pins : List (Str × Value)) : isGlob (cxLaw pins) (nm "_law_wide") = true ∧ isGlob (cxLaw pins) (nm "_law_draw") = true ∧ isGlob (cxLaw pins) (nm "WidthTable") = true ∧ isGlob (cxLaw pins) (nm "_law_row") = true := by
  refine ⟨?_, ?_, ?_, ?_⟩ <;> kernel_rfl
end
end Mine
end

section
open PySem PyProof.Rows PySem.W
set_option Elab.async false
set_option linter.unusedVariables false
set_option linter.unusedSimpArgs false
set_option maxRecDepth 100000
namespace Mine
section
variable {prog : Program} {w : World} {A : Around} {cx : Cx} {env : Env} {s : Shared} {m : Str → Option Value}

theorem ints_rd {P : Addr → Prop} {h : Heap} : ∀ {vs : List Value} {ns : List Int}, IntsAre vs ns → RdAll P h vs (ns.map .int)
  | _, _, .nil => .nil
  | _, _, .cons _ _ r => .cons (.int _ _) (ints_rd r)

/-- x[:63] of a list of ints -/
theorem slice_ev {x : Str} {l : Addr} {vs : List Value} {ns : List Int} {p1 p2 p3 p4 : Pos} (he : EnvOk cx env) (hn : s.heap.Ns env.locals m) (hx : Slot env s.heap m x (.ref l)) (hdbg : (x == ("__debug__" : Str)) = false)
    (hL : s.heap.IsList l vs.toArray) (hI : IntsAre vs ns) (hz : vs.length ≤ 1000) :
    EvOk prog w A (eval (.Subscript (.Name x p1) (.Slice none (some (.Constant (.int 63) 0 p2)) none p3) p4) env) (fun _ => False) s (.list ((ns.take 63).map .int)) := fun E => by
  refine Subscript_ (wpAny_Name (load_slot he hn hx (wpAny_Slice ?_)) hdbg)
  rw [evalPart_none]
  refine wpAny_pure ?_
  show wpAny _ _ (eval (.Constant (.int 63) 0 p2) env) _ _ _
  refine wpAny_Constant_int ?_
  refine wpAny_pure ?_
  obtain ⟨ops, hops⟩ := subscripted_ops (.Slice none (some (.Constant (.int 63) 0 p2)) none p3) (.ref l) (.ref s.heap.objs.size)
  have kp : Le s.heap (s.heap.push { cls := .type "slice", data := .fields #[.none, .int 63 s.toks, .none] }) := Le.push _ _
  have hL2 := hL.at fun o e => kp l o e
  refine tail_any (s := { s with heap := s.heap.push { cls := .type "slice", data := .fields #[.none, .int 63 s.toks, .none] }, toks := s.toks + 1 }) hL2.typeIs slot_list_getitem.lookup
    (wpAny_getItem_list_slice (s := { s with heap := s.heap.push { cls := .type "slice", data := .fields #[.none, .int 63 s.toks, .none] }, toks := s.toks + 1 }) hL2 (Heap.IsSliceOf.new ..) .none (.int 63 _) .none (by simp) ?_ (by rw [sizeLine_eq, List.size_toArray]; omega)) hops
  refine ⟨keeps_heap (kp.trans (Le.push _ _)), ?_⟩
  have hlen := hI.length
  refine .list (n := 0) (.inr ?_) (Heap.get?_push_size _ rfl) ?_ ?_
  · cases q : s.heap.get? (s.heap.push { cls := .type "slice", data := .fields #[.none, .int 63 s.toks, .none] }).objs.size with
    | none => rfl
    | some o => have := kp _ _ q; rw [fresh_size] at this; cases this
  · exact Nat.le_trans (slicePick_size_le ..) (by rw [List.size_toArray]; omega)
  · have e : slicePick vs.toArray none (some 63) none = (vs.take 63).toArray := by
      have := slicePick_upto' vs.toArray 63
      simpa using this
    rw [e]
    exact (ints_rd hI).take 63 |> fun r => by rw [List.map_take]; exact r
end
end Mine
end

section
open PySem PyProof.Rows PySem.W
set_option Elab.async false
set_option linter.unusedVariables false
set_option linter.unusedSimpArgs false
set_option maxRecDepth 100000
namespace Mine
section
variable {w : World} {mg mb : Str → Option Value} {prog : Program}

theorem cell_go (Γ : Ctab) : ∀ ns : List Int, compGo (fun d => evAnd Γ ((List.replicate 20 none : Env0).set 17 (some (.dat d))) []) (fun d => evP Γ ((List.replicate 20 none : Env0).set 17 (some (.dat d))) meCell) (ns.map .int) = some ((ns.map fun n => n.fmod 1000000000).map .int)
  | [] => rfl
  | n :: ns => by
    have ih := cell_go Γ ns
    have e : evP Γ ((List.replicate 20 none : Env0).set 17 (some (.dat (.int n)))) meCell = some (.int (n.fmod 1000000000)) := by
      have h1 : datAt ((List.replicate 20 none : Env0).set 17 (some (.dat (.int n)))) 17 = some (.int n) := rfl
      have h2 : binD .pow (.int 10) (.int 9) = some (.int 1000000000) := by kernel_rfl
      have h3 : binD .mod (.int n) (.int 1000000000) = some (.int (n.fmod 1000000000)) := by simp [binD_1, binD_2, binD_3, binD_4, binD_5, binD_6, binD_7, binD_8]
      simp only [meCell, evP_lit, evP_var, evP_bin, evP_neg, evP_not, evP_and, evP_or, evP_ite, evP_list, evP_tup, evP_cmp, evP_cmp2, evP_idx, evP_sl, evP_rev, evP_call, evP_meth, evP_attr, evP_len, evP_sum, evP_sumL, evP_toInt, evP_toList, evP_toTup, evP_comp, evP_rng, h1, h2, h3]
    rw [List.map_cons, compGo]
    simp only [evAnd_nil, evAnd_cons_, e]
    simp only [evAnd_nil, evAnd_cons_] at ih
    rw [ih]
    rfl

theorem none20 {k : Nat} {X : V} (h : valAt (List.replicate 20 none) k = some X) : False := by
  unfold valAt at h
  rw [List.getElem?_replicate] at h
  split at h <;> simp_all

/-- pen = [[int(cell) % 10 ** 9 for cell in script[:63]], 0] -/
theorem law_pen {A : Around} {env : Env} {s0 s1 : Shared} {F : Addr → Prop} {hF : Heap} {m : Str → Option Value} {l0 : Addr} {vs : List Value} {ns : List Int} {E : Value → Shared → Prop} (I : Inv (sys w mg mb) 64 (cxLaw []) 12 env (fun _ => False) s0 F hF A (List.replicate 20 none) s1 (fun _ => False) m)
    (hx : Slot env s1.heap m (nm "script") (.ref l0)) (hL : s1.heap.IsList l0 vs.toArray) (hI : IntsAre vs ns) (hz : vs.length ≤ 1000) :
    wpAny (model prog w) A (exec (lawS 0) env) (fun f s' => f = .next ∧ ∃ D l m' cells, Inv (sys w mg mb) 64 (cxLaw [(nm "pen", .ref D)]) 12 env (fun _ => False) s0 (fun a => a = D ∨ a = l) s'.heap A (List.replicate 20 none) s' (fun _ => False) m' ∧ PenAt s'.heap D l cells 0 ∧ s0.heap.get? D = none) E s1 := by
  refine hide fun X back => ?_
  obtain ⟨elt, scope, p1, p2, p3, p4, p5, p6, p7, p8, p9, p10, hst, hok, hme⟩ := law_s0
  refine back ?_
  clear back
  rw [hst]
  have snd := fun n => sound (S := sys w mg mb) (prog := prog) (w := w) (L := 64) (Γ := Γs 64) (goodS 64) n
  have hko := kindOf_eq I.e
  refine wpAny_Assign_Name (wpAny_List (wpAny_items_cons ((r_comp (n := 40) (nx := 17) (S := sys w mg mb) (L := 64) (Γ := Γs 64) (fun cx' me h => ((snd 40).e _ cx' _ me h).e) (fun cx' e me h => (snd 40).t _ cx' e me h) I.ctxM hok rfl
    (src_items I.r.hd (slice_ev I.e I.ns hx (by decide +kernel) hL hI hz) rfl) hme (by rfl) (cell_go _ _)).bind fun v s2 k2 r2 => ?_) rfl)) rfl
  generalize ((ns.take 63).map fun n => n.fmod 1000000000) = cells at r2
  cases r2 with
  | @list l us n' _ pl el sz rl =>
  refine wpAny_items_cons (wpAny_Constant_int (wpAny_items_nil ⟨by rw [sizeLine_eq]; show 2 ≤ _; omega, ?_⟩)) rfl
  have k3 : Keeps s1 { s2 with heap := s2.heap.push { cls := .type "list", data := .seq ([.ref l, .int 0 s2.toks] : List Value).toArray }, toks := s2.toks + 1 } := keeps_trans k2 (keeps_heap (Le.push _ _))
  have hfresh : s2.heap.get? s2.heap.objs.size = none := fresh_size _
  have hD : (s2.heap.push { cls := .type "list", data := .seq ([.ref l, .int 0 s2.toks] : List Value).toArray }).get? s2.heap.objs.size = some (lob #[.ref l, .int 0 s2.toks] 0) := Heap.get?_push_size _ rfl
  have hl : (s2.heap.push { cls := .type "list", data := .seq ([.ref l, .int 0 s2.toks] : List Value).toArray }).get? l = some (lob us n') := Le.push _ _ _ _ el
  have hlD : l ≠ s2.heap.objs.size := fun q => by rw [q, hfresh] at el; cases el
  have I3 := I.same k3
  generalize hDe : s2.heap.objs.size = D at *
  generalize hP : (s2.heap.push { cls := .type "list", data := .seq ([.ref l, .int 0 s2.toks] : List Value).toArray }) = h3 at *
  have none0 : ∀ a, s2.heap.get? a = none → s0.heap.get? a = none := fun a h => by
    cases q : s0.heap.get? a with
    | none => rfl
    | some o => rw [keeps_le (keeps_trans I.k k2) _ _ q] at h; cases h
  obtain ⟨lp, _⟩ := law_lc []
  refine wpAny_storeName_local ((hko _).trans lp) I3.ns (fun h4 hn4 hs4 => ?_) (by rw [I.e.kind]; rfl)
  have lD : D ≠ env.locals := fun q => by
    obtain ⟨o, e, ne⟩ := ns_some I3.ns
    rw [← q, show h3.get? D = _ from hD] at e; cases e; exact ne.1 _ _ rfl
  have ll : l ≠ env.locals := fun q => by
    obtain ⟨o, e, ne⟩ := ns_some I3.ns
    rw [← q, show h3.get? l = _ from hl] at e; cases e; exact ne.1 _ _ rfl
  have nc : ∀ (n : Str) (c : Addr) (a : Addr), env.cells.lookup n = some c → (∃ vs k, h3.get? a = some (lob vs k)) → c ≠ a := fun n c a h ⟨vs, k, e⟩ q => by
    obtain ⟨u, hu⟩ := I3.ce n c h
    obtain ⟨o, eo, ne⟩ := cell_some hu
    rw [q, show h3.get? a = _ from e] at eo; cases eo; exact ne.1 _ _ rfl
  have hD4 := hs4.extBut _ _ lD hD
  have hl4 := hs4.extBut _ _ ll hl
  have pen4 : PenAt h4 D l cells 0 := ⟨⟨_, _, hD4⟩, ⟨_, _, hl4, sz, ints_any rl⟩, hlD⟩
  refine ⟨rfl, D, l, _, cells, ⟨⟨I.e.kind, I.e.names, I.e.globals, I.e.builtins, I.e.cells⟩, ?_, I.b, I.r, law_nd _, I.lf, I.cf, I.ap, fun a h => ?_, fun a o _ e => e, fun h => ?_, fun n c h q => ?_, fun a h => h.elim, fun a h => h.elim, fun h => h, fun n c h q => q, hn4, fun n c h => ?_, fun k x X hk e1 e2 => (none20 e2).elim, fun x X e1 e2 => (none20 e2).elim, fun y u hy => ?_⟩, pen4, none0 _ hfresh⟩
  · obtain ⟨h5, t5, e5, k5⟩ := I3.k
    have e5' : ∀ tk, ({ s2 with heap := h4, toks := tk } : Shared) = { s0 with heap := h4, toks := tk } := fun tk => by
      have := congrArg (fun s : Shared => ({ s with heap := h4, toks := tk } : Shared)) e5
      exact this
    exact ⟨h4, _, e5' _, fun b o e => hs4.extBut b o (fun q => by rw [q, I.lf] at e; cases e) (keeps_le I3.k b o e)⟩
  · rcases h with rfl | rfl
    · exact ⟨_, hD4⟩
    · exact ⟨_, hl4⟩
  · rcases h with h | h
    · exact lD h.symm
    · exact ll h.symm
  · rcases q with q | q
    · exact nc n c D h ⟨_, _, hD⟩ q
    · exact nc n c l h ⟨_, _, hl⟩ q
  · obtain ⟨u, hu⟩ := I3.ce n c h
    exact ⟨u, hu.sameBut hs4 (I.cf n c h).2⟩
  · have hy := List.mem_singleton.mp hy
    cases hy
    exact ⟨.inl ⟨(hko _).trans lp, by simp⟩, law_pen_free _⟩
end
end Mine
end

section
open PySem PyProof.Rows PySem.W
set_option Elab.async false
set_option linter.unusedVariables false
set_option linter.unusedSimpArgs false
set_option maxRecDepth 100000
namespace Mine
section
variable {S : Sys} {prog : Program} {w : World} {L : Nat} {Γ : Ctab} {cx : Cx} {ow : Nat} {env : Env} {P₀ F P : Addr → Prop} {s₀ s : Shared} {hF : Heap} {A : Around} {ρ : Env0} {m : Str → Option Value} {E : Value → Shared → Prop}

/-- names are bound in turn; what is visible stays as it is -/
theorem put_allP {ts : List (Value → Sem Unit)} {xs : List Str} {ks : List Nat} {vs : List Value} {ds : List PyData} (hlen : ts.length = ks.length) (hlx : xs.length = ks.length) (hv : vs.length = ks.length)
    (ht : ∀ (i : Nat) (t : Value → Sem Unit) (x : Str), ts[i]? = some t → xs[i]? = some x → StoreT prog w A env x t) (hk : ∀ (i k : Nat) (x : Str), ks[i]? = some k → xs[i]? = some x → cx.slots[k]? = some (some x) ∧ (cx.names.lookup x = some .local ∨ cx.names.lookup x = some .cell) ∧ k ≠ ow)
    (I : Inv S L cx ow env P₀ s₀ F hF A ρ s P m) (hr : RdAll P s.heap vs ds) {Q : Unit → Shared → Prop} (hQ : ∀ s' m', Inv S L cx ow env P₀ s₀ F hF A (setAll ρ ks ds) s' P m' → Q () s') :
    wpAny (model prog w) A (assignInOrder ts vs) Q E s := by
  induction ks generalizing ts xs vs ds ρ s m with
  | nil =>
    cases ts with
    | nil =>
      refine wpAny_pure (hQ s m ?_)
      unfold setAll
      cases ds <;> exact I
    | cons _ _ => cases hlen
  | cons k ks ih =>
    cases ts with
    | nil => cases hlen
    | cons t ts =>
      cases xs with
      | nil => cases hlx
      | cons x xs =>
        cases hr with
        | nil => cases hv
        | @cons v vs d ds r rs =>
          obtain ⟨h1, h2, h3⟩ := hk 0 k x rfl rfl
          show wpAny _ A (holding vs (t v) >>= fun _ => assignInOrder ts vs) Q E s
          refine wpAny_bind (wpAny_holding (ht 0 t x rfl rfl v _ _ _ (I.put h1 h2 h3 r fun s' m' I' hz => ?_)))
          obtain ⟨z, hz1, hz2⟩ := hz
          refine ih (Nat.succ.inj hlen) (Nat.succ.inj hlx) (Nat.succ.inj hv) (fun i t x e1 e2 => ht (i + 1) t x (by simpa using e1) (by simpa using e2)) (fun i k x e1 e2 => hk (i + 1) k x (by simpa using e1) (by simpa using e2)) I' (rs.mono (fun _ _ _ p => p) (I.sameRd hz1 hz2)) fun s'' m'' I'' => ?_
          exact hQ s'' m'' (by rw [setAll]; exact I'')
end
section
variable {w : World} {mg mb : Str → Option Value} {prog : Program}

/-- the law's frame while the pen draws -/
structure LawAt (w : World) (mg mb : Str → Option Value) (D l : Addr) (cells : List Int) (s0 : Shared) (A : Around) (env : Env) (ρ : Env0) (hi : Int) (s : Shared) : Prop where
  ex : ∃ P m at', Inv (sys w mg mb) 64 (cxLaw [(nm "pen", .ref D)]) 12 env (fun _ => False) s0 (fun a => a = D ∨ a = l) s.heap A ρ s P m ∧ PenAt s.heap D l cells at' ∧ 0 ≤ at' ∧ at' ≤ hi ∧ ¬ P D ∧ s0.heap.get? D = none

theorem pen_mem (D : Addr) : (nm "pen", Value.ref D) ∈ (cxLaw [(nm "pen", .ref D)]).pins := List.mem_singleton.mpr rfl
theorem PenAt.held {s s' : Shared} {D l : Addr} {cells : List Int} {i : Int} (p : PenAt s.heap D l cells i) (k : ∀ a o, (a = D ∨ a = l) → s.heap.get? a = some o → s'.heap.get? a = some o) : PenAt s'.heap D l cells i := p.keep fun b o hb e => k b o hb e

/-- wide, ranges = _law_wide(_law_draw(pen, 3)) -/
theorem law_wide {A : Around} {env : Env} {s0 s : Shared} {D l : Addr} {cells : List Int} {hi : Int} {E : Value → Shared → Prop} (J : LawAt w mg mb D l cells s0 A env (List.replicate 20 none) hi s) (hh : hi ≤ 800) :
    wpAny (model prog w) A (exec (lawS 1) env) (fun f s' => f = .next ∧ ∃ way, way < 3 ∧ LawAt w mg mb D l cells s0 A env (setAll (List.replicate 20 none) [2, 3] [.tuple ((wideOf way).map .int), rgD (rangesOf way)]) (hi + 1) s') E s := by
  refine hide fun X back => ?_
  obtain ⟨P, m, at', I, pen, h0, h1, hPD, hD0⟩ := J.ex
  obtain ⟨p1, p2, p3, p4, p5, p6, p7, p8, p9, p10, hst⟩ := law_s1
  obtain ⟨g1, g2, g3, g4⟩ := law_gl [(nm "pen", .ref D)]
  obtain ⟨l1, l2, l3, l4, l5⟩ := law_lc [(nm "pen", .ref D)]
  obtain ⟨o, fd, f1, f2⟩ := fn_in (w := w) (k := 186) rfl
  refine back ?_
  clear back
  rw [hst]
  refine Assign_Tuple ?_ rfl rfl
  rw [eval_CallName]
  have hgm : mg (nm "_law_wide") = some (.ref 186) := mg_of I.bs.kin I.bs.g rfl
  refine wpAny_bind (name_fn (cx := (cxLaw [(nm "pen", .ref D)]).mask 12) I.ctxM (by exact g1) hgm ?_)
  refine Calls.callWith_function (o := o) (fd := fd) (evalArgs_all rfl (wpAny_items_cons (draw_eval I (by decide) (fun _ _ _ e => e) g2 (pen_mem D) (by decide +kernel) pen (.inl rfl) hD0 hPD h0 (by omega) (by decide) fun r tr h2 tk2 r0 r1 I2 pen2 k2 => wpAny_items_nil ⟨⟨I2.bs.kin _ _ f1, f2⟩, ?_⟩) rfl))
  obtain ⟨way, hway, hr⟩ : ∃ way : Nat, way < 3 ∧ r = (way : Int) := ⟨r.toNat, by omega, by omega⟩
  subst hr
  refine EvOk.bind (goodS (prog := prog) 64 186 [.dat (.int (way : Int))] _ (g186 hway 63) A (fun _ => False) { s with heap := h2, toks := tk2 } [.int (way : Int) tr] I2.r I2.bs (.cons (.int _ _) .nil)) fun v s3 k3 r3 => ?_
  have I3 := (I2.step k3).now
  have pen3 := pen2.keep (h' := s3.heap) fun b o _ e => keeps_le k3 _ _ e
  obtain ⟨t3, n3, eD3⟩ := pen2.ex
  have nD : ¬ Nxt P { s with heap := h2, toks := tk2 } s3 D := fun h => by
    rcases h.1 with h | h
    · exact hPD h
    · rw [show ({ s with heap := h2, toks := tk2 } : Shared).heap.get? D = _ from eD3] at h; cases h
  have r3' : Rd (Nxt P { s with heap := h2, toks := tk2 } s3) s3.heap v (.tuple [.tuple ((wideOf way).map .int), rgD (rangesOf way)]) := r3.mono (fun a o e p => ⟨p.imp (fun q => q.elim) id, o, e⟩) (.of_le (Le.refl _))
  cases r3' with
  | @tuple t us n' _ et sz rt =>
  have hul := rt.length
  rw [Array.length_toList] at hul
  refine assign_Tuple_tuple I3.r.hd (isTup_of et) (by rw [hul]; rfl) rfl fun h4 he => ?_
  have k4 : Keeps s3 { s3 with heap := h4 } := keeps_heap' fun a o e => he a o (Nat.ne_of_lt (Heap.lt_size e)) e
  have I4 := (I3.same k4).now
  have pen4 := pen3.keep (h' := h4) fun b o _ e => keeps_le k4 _ _ e
  refine put_allP (xs := [nm "wide", nm "ranges"]) (ks := [2, 3]) (ds := [.tuple ((wideOf way).map .int), rgD (rangesOf way)]) rfl rfl (by simp [hul]) (fun i t x e1 e2 => ?_) (fun i k x e1 e2 => ?_) I4 (rt.mono (fun _ _ _ p => p) (.of_le (keeps_le k4))) fun s5 m5 I5 => ⟨rfl, way, hway, ⟨_, m5, at' + 1, I5.now, pen4.held (s := { s3 with heap := h4 }) fun a o ha e => I5.fk a o ha e, by omega, by omega, nD, hD0⟩⟩
  · match i, e1, e2 with
    | 0, e1, e2 => simp at e2; subst e2; cases e1; exact storeT_assign
    | 1, e1, e2 => simp at e2; subst e2; cases e1; exact storeT_assign
  · match i, e1, e2 with
    | 0, e1, e2 => simp at e1 e2; subst e1 e2; exact ⟨rfl, .inr l2, by decide⟩
    | 1, e1, e2 => simp at e1 e2; subst e1 e2; exact ⟨rfl, .inl l3, by decide⟩
end
end Mine
end

section
open PySem PyProof.Rows PySem.W
set_option Elab.async false
set_option linter.unusedVariables false
set_option linter.unusedSimpArgs false
set_option maxRecDepth 100000
namespace Mine
section
variable {w : World} {mg mb : Str → Option Value} {prog : Program}

noncomputable abbrev rho2 (way : Nat) : Env0 := setAll (List.replicate 20 none) [2, 3] [.tuple ((wideOf way).map .int), rgD (rangesOf way)]
noncomputable abbrev rho3 (way : Nat) : Env0 := (rho2 way).set 4 (some (tabOf way))

theorem TabAt.mono {S : Sys} {P P' : Addr → Prop} {h h' : Heap} {v : Value} {a b c : PyData} (hp : ∀ x o, h.get? x = some o → P x → P' x) (hs : Same P h h') (t : TabAt S P h v a b c) : TabAt S P' h' v a b c :=
  Rep.mono (x := .tab a b c) hp hs t

/-- table = WidthTable(ranges, [..], [..]) -/
theorem law_table {A : Around} {env : Env} {s0 s : Shared} {D l : Addr} {cells : List Int} {hi : Int} {way : Nat} {E : Value → Shared → Prop} (hway : way < 3) (J : LawAt w mg mb D l cells s0 A env (rho2 way) hi s) :
    wpAny (model prog w) A (exec (lawS 2) env) (fun f s' => f = .next ∧ LawAt w mg mb D l cells s0 A env (rho3 way) hi s') E s := by
  refine hide fun X back => ?_
  obtain ⟨P, m, at', I, pen, h0, h1, hPD, hD0⟩ := J.ex
  obtain ⟨e, r, p1, p2, p3, p4, hst, hmes⟩ := law_s2 [(nm "pen", .ref D)]
  have snd := fun n => sound (S := sys w mg mb) (prog := prog) (w := w) (L := 64) (Γ := Γs 64) (goodS 64) n
  obtain ⟨g1, g2, g3, g4⟩ := law_gl [(nm "pen", .ref D)]
  obtain ⟨l1, l2, l3, l4, l5⟩ := law_lc [(nm "pen", .ref D)]
  refine back ?_
  clear back
  rw [hst]
  refine wpAny_Assign_Name ?_ rfl
  rw [eval_CallName]
  have hgm : mg (nm "WidthTable") = some (.ref 100) := mg_of I.bs.kin I.bs.g rfl
  refine wpAny_bind (name_fn (cx := (cxLaw [(nm "pen", .ref D)]).mask 12) I.ctxM (by exact g3) hgm ?_)
  have hev : evAs (Γs 64) (rho2 way) mesTable = some [.dat (rgD (rangesOf way)), .dat marksD, .dat joinD] := rfl
  have hkeep : keepIn (KK w.params) (.ref 100) = true := by kernel_rfl
  refine callWith_K I.b.kin hkeep (wpAny_mono (as_ok (S := sys w mg mb) (L := 64) (Γ := Γs 64) (n := 40) (nx := 17) (fun e me h => (snd 40).e _ _ e me h) p3 (e :: r) mesTable _ s _ hmes hev I.ctxM) (fun vs s2 hq => ?_) fun _ _ x => x) (starEach_cons (mapO_noStar hmes)).1 (starEach_plain _ _ (starEach_cons (env := env) (mapO_noStar hmes)).2)
  obtain ⟨k2, r2⟩ := hq
  cases r2 with
  | @cons v1 _ _ _ q1 r2 =>
  cases r2 with
  | @cons v2 _ _ _ q2 r2 =>
  cases r2 with
  | @cons v3 _ _ _ q3 r2 =>
  cases r2
  have B2 := I.bs.keeps (keeps_le k2)
  refine ⟨B2.kin, wpAny_call (table_ok (P := Up P s) I.r B2 q1 q2 q3 (g69 hway 61) (g69m 61) (g69j 61) fun x s3 k3 t3 => ?_)⟩
  have k23 := keeps_trans k2 k3
  have I3 := (I.step k23).now
  have pen3 := pen.keep (h' := s3.heap) fun b o _ e => keeps_le k23 _ _ e
  obtain ⟨t, n, eD⟩ := pen.ex
  have nD : ¬ Nxt P s s3 D := fun h => by
    rcases h.1 with h | h
    · exact hPD h
    · rw [eD] at h; cases h
  have t3' : Rep (sys w mg mb) (Nxt P s s3) s3.heap (.ref x) (tabOf way) := TabAt.mono (fun a o e p => ⟨up_up k2 a p, o, e⟩) (.of_le (Le.refl _)) t3
  refine I3.store (k := 4) (x := nm "table") (X := tabOf way) rfl (.inr l4) (by rw [if_neg (by decide)]; exact t3') fun s4 m4 I4 hz => ⟨rfl, ⟨_, m4, at', I4.now, pen3.held (s := s3) fun a o ha e => I4.fk a o ha e, h0, h1, nD, hD0⟩⟩
end
end Mine
end

section
open PySem PyProof.Rows PySem.W
set_option Elab.async false
set_option linter.unusedVariables false
set_option linter.unusedSimpArgs false
set_option maxRecDepth 100000
namespace Mine
section
variable {w : World} {mg mb : Str → Option Value} {prog : Program}

noncomputable abbrev rho4 (way : Nat) (row : List Int) : Env0 := (rho3 way).set 5 (some (.dat (.list (row.map .int))))
theorem rho4_ow (way : Nat) (row : List Int) : valAt (rho4 way row) 12 = none := rfl
theorem rho3_ow (way : Nat) : valAt (rho3 way) 12 = none := rfl

/-- row = _law_row(pen) -/
theorem law_row {A : Around} {env : Env} {s0 s : Shared} {D l : Addr} {cells : List Int} {hi : Int} {way : Nat} {E : Value → Shared → Prop} (hhi : hi ≤ 800) (J : LawAt w mg mb D l cells s0 A env (rho3 way) hi s) :
    wpAny (model prog w) A (exec (lawS 3) env) (fun f s' => f = .next ∧ ∃ row : List Int, (∀ c ∈ row, c ∈ sorts) ∧ row.length ≤ 12 ∧ LawAt w mg mb D l cells s0 A env (rho4 way row) (hi + 13) s') E s := by
  refine hide fun X back => ?_
  obtain ⟨P, m, at', I, pen, h0, h1, hPD, hD0⟩ := J.ex
  obtain ⟨p1, p2, p3, p4, p5, hst⟩ := law_s3
  obtain ⟨g1, g2, g3, g4⟩ := law_gl [(nm "pen", .ref D)]
  obtain ⟨l1, l2, l3, l4, l5⟩ := law_lc [(nm "pen", .ref D)]
  obtain ⟨t, n, eD⟩ := pen.ex
  refine back ?_
  clear back
  rw [hst]
  refine wpAny_Assign_Name ?_ rfl
  rw [eval_CallName]
  have hgm : mg (nm "_law_row") = some (.ref 193) := mg_of I.bs.kin I.bs.g rfl
  refine wpAny_bind (name_fn (cx := (cxLaw [(nm "pen", .ref D)]).mask 12) I.ctxM (by exact g4) hgm ?_)
  obtain ⟨o, fd, f1, f2⟩ := fn_in (w := w) (k := 193) rfl
  refine Calls.callWith_function (o := o) (fd := fd) (evalArgs_all rfl (wpAny_items_cons (wpAny_Name (load_slot I.e I.ns (I.pin _ _ (pen_mem D)).1 (wpAny_items_nil ⟨⟨I.bs.kin _ _ f1, f2⟩, ?_⟩)) (by decide +kernel)) rfl))
  refine row_ok (s := s) (sB := s0) (at0 := at') (I.r.le (by decide)) I.b I.k hD0 pen h0 (by omega) fun a row vs n' h' tk at1 hs hlen ha ea hz hr pen' z0 z1 kk => ?_
  obtain ⟨t', n2, eD'⟩ := pen'.ex
  obtain ⟨vl, nl, el', _⟩ := pen'.li
  have nl' : D ≠ env.locals := fun q => by obtain ⟨o, e, ne⟩ := ns_some I.ns; rw [← q, eD] at e; cases e; exact ne.1 _ _ rfl
  have nc' : ∀ (n : Str) (c : Addr), env.cells.lookup n = some c → D ≠ c := fun n c h q => by obtain ⟨u, hu⟩ := I.ce n c h; obtain ⟨o, e, ne⟩ := cell_some hu; rw [← q, eD] at e; cases e; exact ne.1 _ _ rfl
  have I2 : Inv (sys w mg mb) 64 (cxLaw [(nm "pen", .ref D)]) 12 env (fun _ => False) s0 (fun a => a = D ∨ a = l) h' A (rho3 way) { s with heap := h', toks := tk } P m := by
    refine I.changeL (fun a o hne e => kk a o hne e) hD0 hPD ⟨_, _, eD⟩ (.inl rfl) nl' nc' (fun a h => ?_) (fun a o _ e => e) I.fl I.fc fun D' ho h => ?_
    · rcases h with rfl | rfl
      · exact ⟨_, eD'⟩
      · exact ⟨_, el'⟩
    · obtain ⟨_, _, _, e2, _⟩ := ho
      rw [rho3_ow] at e2; cases e2
  have ha0 : s0.heap.get? a = none := by
    cases q : s0.heap.get? a with
    | none => rfl
    | some o => rw [keeps_le I.k _ _ q] at ha; cases ha
  have I3 := (I2.more (P' := fun b => b = a) (fun b h => by subst h; exact .inr ha0) (fun b h => by subst h; exact ⟨_, ea⟩) (fun h => by
      obtain ⟨o, e, ne⟩ := ns_some I.ns
      rw [h, ha] at e; cases e) (fun n c hc h => by
      obtain ⟨u, hu⟩ := I.ce n c hc
      obtain ⟨o, e, ne⟩ := cell_some hu
      rw [h, ha] at e; cases e) (fun D' ho h => by
      obtain ⟨_, _, _, e2, _⟩ := ho
      rw [rho3_ow] at e2; cases e2)).now
  have nD : ¬ (P D ∨ D = a) := fun h => by
    rcases h with h | h
    · exact hPD h
    · rw [← h, eD] at ha; cases ha
  refine I3.put (k := 5) (x := nm "row") (d := .list (row.map .int)) rfl (.inl l5) (by decide) (.list (.inr rfl) ea hz (ints_any hr)) fun s4 m4 I4 hz4 => ⟨rfl, row, hs, hlen, ⟨_, m4, at1, I4.now, pen'.held (s := { s with heap := h', toks := tk }) fun a o ha e => I4.fk a o ha e, z0, by omega, nD, hD0⟩⟩
end
end Mine
end

section
open PySem PyProof.Rows PySem.W
set_option Elab.async false
set_option linter.unusedVariables false
set_option linter.unusedSimpArgs false
set_option maxRecDepth 100000
namespace Mine
section
variable {w : World} {mg mb : Str → Option Value} {prog : Program}

noncomputable abbrev rho5 (way : Nat) (row : List Int) (most : Int) : Env0 := setAll (rho4 way row) [8, 7, 6] [.int most, .list (LL (splitL row)), .list (row.map .int)]

/-- given, parts, most = (list(row), _law_parts(row), _law_draw(pen, 9)) -/
theorem law_given {A : Around} {env : Env} {s0 s : Shared} {Dp l : Addr} {cells : List Int} {hi : Int} {way : Nat} {row : List Int} {E : Value → Shared → Prop} (hs : ∀ c ∈ row, c ∈ sorts) (hl : row.length ≤ 12) (hhi : hi ≤ 800) (J : LawAt w mg mb Dp l cells s0 A env (rho4 way row) hi s) :
    wpAny (model prog w) A (exec (lawS 4) env) (fun f s' => f = .next ∧ ∃ most : Int, 0 ≤ most ∧ most ≤ 8 ∧ ∃ P m, Inv (sys w mg mb) 64 (cxLaw [(nm "pen", .ref Dp)]) 12 env (fun _ => False) s0 (fun a => a = Dp ∨ a = l) s'.heap A (rho5 way row most) s' P m) E s := by
  refine hide fun X back => ?_
  obtain ⟨P, m, at0, I, pen, h0, h1, hPD, hD0⟩ := J.ex
  obtain ⟨ts, e1, e2, p4, p5, p6, p7, p8, p9, p10, hst, hk, ho, hc1, hc2⟩ := law_s4 [(nm "pen", .ref Dp)]
  have snd := fun n => sound (S := sys w mg mb) (prog := prog) (w := w) (L := 64) (Γ := Γs 64) (goodS 64) n
  obtain ⟨g1, g2, g3, g4⟩ := law_gl [(nm "pen", .ref Dp)]
  obtain ⟨t, n, eD⟩ := pen.ex
  obtain ⟨q1, q2⟩ := (allK_is hk).len
  have q3 := (allK_is hk).get
  have hev1 : evP (Γs 64) (rho4 way row) (.toList (.var 5)) = some (.list (row.map .int)) := rfl
  have hev2 : evP (Γs 64) (rho4 way row) (.call 203 [.var 5]) = some (.list (LL (splitL row))) := by
    rw [ev_call (vs := [.dat (.list (row.map .int))]) rfl]
    have := g203 hs (by omega) (63 - row.length)
    rwa [show 63 - row.length + row.length + 1 = 64 by omega] at this
  have hns1 := cE_star hc1
  have hns2 := cE_star hc2
  refine back ?_
  clear back
  rw [hst]
  refine Assign_Tuple_swapped (names := allN ts) (wpAny_Tuple (wpAny_items_cons ((((snd 40).e _ _ _ _ hc1).e _ _ env P s A hev1 I.ctxM).bind fun v1 s1 k1 r1 => ?_) (starEach_cons (by rw [hns1, hns2]; rfl)).1)) rfl (swapped_ok I.e hk ho)
  refine wpAny_items_cons ((((snd 40).e _ _ _ _ hc2).e _ _ env P s1 A hev2 (I.ctxM.keeps k1)).bind fun v2 s2 k2 r2 => ?_) (starEach_cons (by rw [hns2]; rfl)).1
  have k12 := keeps_trans k1 k2
  have I2 := (I.step k12).now
  have pen2 := pen.keep (h' := s2.heap) fun b o _ e => keeps_le k12 _ _ e
  have nD : ¬ Nxt P s s2 Dp := fun h => by
    rcases h.1 with h | h
    · exact hPD h
    · rw [eD] at h; cases h
  have w1 : Rd (Nxt P s s2) s2.heap v1 (.list (row.map .int)) := (r1.later k2).mono (fun a o e p => ⟨p, o, e⟩) (.of_le (Le.refl _))
  have w2 : Rd (Nxt P s s2) s2.heap v2 (.list (LL (splitL row))) := (r2.back k1).mono (fun a o e p => ⟨p, o, e⟩) (.of_le (Le.refl _))
  refine wpAny_items_cons (draw_eval I2 (by decide) (fun _ _ _ e => e) g2 (pen_mem Dp) (by decide +kernel) pen2 (.inl rfl) hD0 nD h0 (by omega) (by decide) fun r tr h3 tk3 r0 r1' I3 pen3 k3 => wpAny_items_nil ⟨by rw [sizeLine_eq]; show 3 ≤ _; omega, ?_⟩) rfl
  obtain ⟨t2, n2, eD2⟩ := pen2.ex
  have toH3 : ∀ {v d}, Rd (Nxt P s s2) s2.heap v d → Rd (Nxt P s s2) h3 v d := fun q => q.mono (fun _ _ _ p => p) fun a o e h => k3 a o (fun z => by
    subst z
    rcases h with h | ⟨vs, k, h⟩
    · exact nD h
    · rw [eD2] at e; cases e; simp at h) e
  generalize hT : ({ cls := .type "tuple", data := .seq ([v1, v2, .int r tr] : List Value).toArray } : Obj) = T
  have kT : Keeps { s2 with heap := h3, toks := tk3 } { s2 with heap := h3.push T, toks := tk3 } := keeps_heap (Le.push _ _)
  have et : (h3.push T).get? h3.objs.size = some (tob #[v1, v2, .int r tr] 0) := by rw [← hT]; exact Heap.get?_push_size _ rfl
  have hN : (allN ts).length = 3 := by rw [q1, ← q2]; rfl
  rw [hN]
  refine wpAny_unpackItems_tuple (items := #[v1, v2, .int r tr]) (s := { s2 with heap := h3.push T, toks := tk3 }) I.r.hd ⟨_, et, rfl, _, rfl⟩ fun h4 he => ?_
  have k4 : Keeps { s2 with heap := h3.push T, toks := tk3 } { s2 with heap := h4, toks := tk3 } := keeps_heap fun a o e => he a o (Nat.ne_of_lt (Heap.lt_size e)) e
  have k34 := keeps_trans kT k4
  have I4 := (I3.same k34).now
  have rall : RdAll (Nxt P s s2) h4 [.int r tr, v2, v1] [.int r, .list (LL (splitL row)), .list (row.map .int)] :=
    .cons (.int _ _) (.cons ((toH3 w2).mono (fun _ _ _ p => p) (.of_le (keeps_le k34))) (.cons ((toH3 w1).mono (fun _ _ _ p => p) (.of_le (keeps_le k34))) .nil))
  refine put_allP (ts := (allN ts).reverse.map fun n => fun v => bindName env n v) (xs := (allN ts).reverse) (ks := [8, 7, 6]) (ds := [.int r, .list (LL (splitL row)), .list (row.map .int)]) (by simp [hN]) (by simp [hN]) rfl (fun i t x e1 e2 => ?_) (fun i k x e1 e2 => ?_) I4 rall fun s5 m5 I5 => ⟨rfl, r, r0, by omega, _, m5, I5.now⟩
  · rw [List.getElem?_map, e2] at e1
    cases e1
    exact storeT_bind
  · have hi3 : i < 3 := by have := (List.getElem?_eq_some_iff.mp e1).1; simpa using this
    rw [List.getElem?_reverse (by rw [hN]; exact hi3), hN] at e2
    have e1' : ([6, 7, 8] : List Nat)[3 - 1 - i]? = some k := by
      match i, hi3, e1 with
      | 0, _, e1 => exact e1
      | 1, _, e1 => exact e1
      | 2, _, e1 => exact e1
    obtain ⟨a, b⟩ := q3 _ k x e1' e2
    refine ⟨a, .inl b, ?_⟩
    match i, hi3, e1 with
    | 0, _, e1 => cases e1; decide
    | 1, _, e1 => cases e1; decide
    | 2, _, e1 => cases e1; decide
end
end Mine
end

section
open PySem PyProof.Rows PySem.W
set_option Elab.async false
set_option linter.unusedVariables false
set_option linter.unusedSimpArgs false
set_option maxRecDepth 100000
namespace Mine
section
variable {w : World} {mg mb : Str → Option Value} {prog : Program}

theorem Inv.forget {S : Sys} {L : Nat} {cx : Cx} {ow : Nat} {env : Env} {P₀ F P : Addr → Prop} {s₀ s : Shared} {hF : Heap} {A : Around} {ρ ρ' : Env0} {m : Str → Option Value} (I : Inv S L cx ow env P₀ s₀ F hF A ρ s P m) (h : ∀ k X, valAt ρ' k = some X → valAt ρ k = some X) : Inv S L cx ow env P₀ s₀ F hF A ρ' s P m :=
  I.remake rfl (keeps_refl _) I.b I.nd I.fa I.fk I.fl I.fc I.pu I.pa I.pl I.pc (fun k x X hk e1 e2 => I.sl k x X hk e1 (h k X e2)) (fun x X e1 e2 => I.so x X e1 (h _ X e2)) I.pin

theorem law_tail (pins : List (Str × Value)) : cL theGT 40 17 (cxLaw pins) 12 lawTail = some msTail := by kernel_rfl

theorem forget5 (way : Nat) (row : List Int) (most : Int) : ∀ k X, valAt (R way row (splitL row) most none none none none none none none none) k = some X → valAt (rho5 way row most) k = some X := by
  intro k X h
  match k, h with
  | 0, h => cases h
  | 1, h => cases h
  | 2, h => exact h
  | 3, h => cases h
  | 4, h => exact h
  | 5, h => exact h
  | 6, h => exact h
  | 7, h => exact h
  | 8, h => exact h
  | 9, h => cases h
  | 10, h => cases h
  | 11, h => cases h
  | 12, h => cases h
  | 13, h => cases h
  | 14, h => cases h
  | 15, h => cases h
  | 16, h => cases h
  | 17, h => cases h
  | 18, h => cases h
  | 19, h => cases h
  | k + 20, h => simp [valAt] at h

/-- the law answers True -/
theorem law_ok {A : Around} {s : Shared} {l0 : Addr} {vs : List Value} {ns : List Int} {R' : Result → Shared → Prop} (R : Room 65 A) (hB : Base (sys w mg mb) s.heap) (hL : s.heap.IsList l0 vs.toArray) (hI : IntsAre vs ns) (hz : vs.length ≤ 1000)
    (hR : ∀ s', Keeps s s' → R' (.ok (.ret (.bool true))) s') : codeAny (model prog w) A (.call (.ref 218) ⟨[.ref l0], []⟩) R' s := by
  have snd := fun n => sound (S := sys w mg mb) (prog := prog) (w := w) (L := 64) (Γ := Γs 64) (goodS 64) n
  refine pin_frame (S := sys w mg mb) (L := 64) (ow := 12) (cx' := cxLaw []) (ρ' := List.replicate 20 none) (k := 218) (sB := s) at_law rfl (law_nd []) (fun k X h => none20 h) (fun y u h => by cases h) R (keeps_refl _) hB rfl fun env s₁ m k1 I hsl => ?_
  rw [law_body]
  have hx := hsl 0 (nm "script") (.ref l0) (by kernel_rfl) rfl
  refine wpAny_execs_cons (wpAny_mono (law_pen I hx (hL.at fun o e => keeps_le k1 _ _ e) hI hz) (fun f s2 h2 => ?_) fun _ _ x => x)
  obtain ⟨rfl, Dp, l, m2, cells, I2, pen2, hD2⟩ := h2
  have J2 : LawAt w mg mb Dp l cells s (A.deeper env) env (List.replicate 20 none) 0 s2 := ⟨_, m2, 0, I2, pen2, Int.le_refl _, Int.le_refl _, fun h => h, hD2⟩
  refine wpAny_execs_cons (wpAny_mono (law_wide J2 (by decide)) (fun f s3 h3 => ?_) fun _ _ x => x)
  obtain ⟨rfl, way, hway, J3⟩ := h3
  refine wpAny_execs_cons (wpAny_mono (law_table hway J3) (fun f s4 h4 => ?_) fun _ _ x => x)
  obtain ⟨rfl, J4⟩ := h4
  refine wpAny_execs_cons (wpAny_mono (law_row (by decide) J4) (fun f s5 h5 => ?_) fun _ _ x => x)
  obtain ⟨rfl, row, hs, hl, J5⟩ := h5
  refine wpAny_execs_cons (wpAny_mono (law_given hs hl (by decide) J5) (fun f s6 h6 => ?_) fun _ _ x => x)
  obtain ⟨rfl, most, m0, m8, P6, m6, I6⟩ := h6
  have H : Row way row most := ⟨hway, hs, hl, m0, m8⟩
  refine wpAny_mono ((stmts_sound snd 40).2 _ _ _ _ _ (law_tail _) _ _ env _ s _ _ _ s6 P6 m6 _ (tail_ok H 59) (I6.forget (forget5 way row most))) (fun f s7 h7 => ?_) fun _ _ x => x
  obtain ⟨v, rfl, k7, r7⟩ := h7
  cases r7
  exact hR _ k7
end
end Mine
end

section
open PySem PyProof.Rows PySem.W
set_option Elab.async false
set_option maxRecDepth 100000
set_option maxHeartbeats 4000000 in
theorem PySem.Challenge.cw_og0238_01_holds : PySem.Challenge.rw_og0238_01.Holds := by
  w_on; o_law
  refine holds_open (q := Mine.viewK) (loose := Mine.looseK) (Xt := Mine.XtK) (XP := XL Mine.viewK Mine.lvK) (Yf := Mine.HK.obs) (Ya := Mine.HK.val) (YP := Mine.HK.says) (N := 3258) Mine.hp_left (Hook.of Mine.HK) (Hook.keeps Mine.HK) (fun s e => xl_of s (Bool.and_eq_true_iff.mp e).1) XL.keeps (by rfl) (by rfl) (by rfl) (fun s e => recFacts_of (Bool.and_eq_true_iff.mp e).2) (by rfl) (by first | assumption | decide +kernel) (by decide +kernel) ⟨rfl, rfl, rfl, rfl, rfl, by decide +kernel⟩ ?hw ?hc
  case hw => w_witness2
  intro w s₀ s₁ mg mb G Y fa o pm cd doc dV kV ho hd hcd hD hmg hg args vals as hpre hlay hrd hwl hlo
  have KX := kIn_of Y
  have X := (Ground.X G).1
  have V := (Ground.X G).2
  have GL := glob_more (Ground.glob G (by decide +kernel) (by decide +kernel)) V
  refine Ground.open G ?_
  intro T B D TE TW
  try (refine guard_noD D (by decide +kernel) ?_; clear D)
  obtain ⟨_, _, M⟩ := bmod_of_top T
  have TA := at_of_top T
  try (obtain ⟨_, _, he, B0⟩ := based_of_top T rfl hmg ho hd; have he' : cd = _ := he; subst he'; clear he)
  wrow_args hpre hlay hrd hwl hlo
  all_goals (first | refine callC_kw (enter_call ?_) | refine enter_call ?_)
  rename_i ns hs hlay0 hL1 hr1 hl2 a4 a3 l vs a0 hL ra w1 r0 hI hr2 hc1 hc2
  have h218 : mg (Str.ofString "law") = some (.ref 218) := mg_of KX GL.g rfl
  have hfa : fa = 218 := by
    have h1 := hmg.symm.trans h218
    injection h1 with h1
    injection h1
  subst hfa
  have hlen := hI.length
  refine Mine.law_ok (w := w) (mg := mg) (mb := mb) (vs := vs) (ns := ns) ⟨rfl, by decide, by decide⟩ (Mine.base GL.g GL.b GL.nolimit KX GL.builtins) hL hI (by omega) fun s' k => ?_
  obtain ⟨h', tk, e, kk⟩ := k
  subst e
  refine GoodW.toG ⟨.inl ⟨_, .bool true, [], rfl, fun cls => rfl, .bool true, ?_, fun _ => ⟨List.nodup_nil, fun a h => by cases h⟩⟩, kk, rfl, hg⟩
  wrow_post
end
