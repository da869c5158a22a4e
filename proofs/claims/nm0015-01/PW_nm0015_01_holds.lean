import PyProof.Rows.All
import Wide.All
import OpenK.AllK
import Wide.FinOn
import PySem.Challenge.RW_nm0015_01
set_option Elab.async false
set_option genSizeOf false

section
open PySem PySem.W PyProof.Rows
set_option tactic.hygienic false
namespace Nm

/-- an own value: no tokens -/
inductive AV where
  | unb | none | bool (b : Bool) | int (i : Int) | str (s : List Nat) | byt (b : List Nat) | ref (a : Nat)
  deriving DecidableEq, Inhabited

/-- an own object -/
inductive AO where
  | list (xs : List AV) | tup (xs : List AV) | sum (p m : List Nat) (n : Int) | piece (k t : List Nat) (v : AV)
  | barr (b : List Nat) | dict (l : List (List Nat × Int)) | ro (xs : List Int)

noncomputable abbrev AH := Nat → Option AO
noncomputable def AH.set (σ : AH) (a : Nat) (o : AO) : AH := fun b => if b = a then some o else σ b

inductive BOp where | add | sub | mul | fdiv | mod | shl | shr | band | bor | bxor | pow 
inductive COp where | lt | le | gt | ge | eq | ne | isin | is | isnot 
inductive B1 where | len | abs | chr | ord | bytes 
inductive M0 where | lower | isdigit | pop 
inductive M1 where | find | append | startswith

set_option genInjectivity false in
inductive AE where
  | loc (i : Nat) | gv (g : Nat) | int (i : Int) | str (s : List Nat) | bool (b : Bool) | none
  | bin (o : BOp) (a b : AE) | neg (a : AE) | not (a : AE) | cmp (o : COp) (a b : AE)
  | chain (a : AE) (o1 : COp) (b : AE) (o2 : COp) (c : AE)
  | and (a b : AE) | or (a b : AE) | ife (c a b : AE) | attr (a : AE) (k : Nat) | idx (a b : AE) | slc (a l u : AE)
  | tup2 (a b : AE) | tup3 (a b c : AE) | tup4 (a b c d : AE) | tupI (l : List Int) | lst0 | lst1 (a : AE) | lst3 (a b c : AE) | dictI (l : List (List Nat × Int))
  | comp | call0 (f : Nat) | call1 (f : Nat) (a : AE) | call2 (f : Nat) (a b : AE) | call3 (f : Nat) (a b c : AE) | call4 (f : Nat) (a b c d : AE)
  | mk (c : Nat) (x y z : AE) | meth (f : Nat) (a : AE) | b1 (f : B1) (a : AE) | barr | m0 (m : M0) (a : AE) | m1 (m : M1) (a b : AE)

set_option genInjectivity false in
inductive AS where
  | skip | seq (s t : AS) | asg (i : Nat) (e : AE) | asg2 (i j : Nat) (e : AE) | asg3 (i j k : Nat) (e : AE) | setidx (a b e : AE)
  | ret (e : AE) | ite (c : AE) (s t : AS) | while (c : AE) (s : AS) | forIn (i : Nat) (e : AE) (s : AS) | forZip (i j : Nat) (e f : AE) (s : AS)
  | forRange (i n : Nat) (s : AS) | expr (e : AE) | fault (i : Nat) | tryF (s t : AS)

noncomputable abbrev VQ := AV → AH → Prop
noncomputable abbrev CallT := Nat → List AV → AH → VQ → (AH → Prop) → Prop

/-- a new object -/
noncomputable def newO (σ : AH) (o : AO) (Q : VQ) : Prop := ∀ c, σ c = none → Q (.ref c) (σ.set c o)

noncomputable def big : Nat := 16777216
noncomputable def ibits (i : Int) : Nat := Builtin.Int.intBits i

/-- two numbers -/
noncomputable def ii (a b : AV) (P : Int → Int → Prop) : Prop := ∃ i j, a = .int i ∧ b = .int j ∧ P i j
noncomputable def addV (a b : AV) (σ : AH) (Q : VQ) : Prop := match a with
  | .int i => ∃ j, b = .int j ∧ Q (.int (i + j)) σ
  | .str x => ∃ y, b = .str y ∧ x.length + y.length ≤ big ∧ Q (.str (x ++ y)) σ
  | .ref a => ∃ c xs ys, b = .ref c ∧ σ a = some (.list xs) ∧ σ c = some (.list ys) ∧ xs.length + ys.length ≤ big ∧ newO σ (.list (xs ++ ys)) Q
  | _ => False
noncomputable def mulV (a b : AV) (σ : AH) (Q : VQ) : Prop := match a with
  | .int i => ∃ j, b = .int j ∧ IntMulOk i j ∧ Q (.int (i * j)) σ
  | .str x => ∃ j, b = .int j ∧ x.length ≤ 16 ∧ (j = 0 ∨ j = 1) ∧ Q (.str (if j = 0 then [] else x)) σ
  | _ => False
noncomputable def binV (o : BOp) (a b : AV) (σ : AH) (Q : VQ) : Prop := match o with
  | .add => addV a b σ Q
  | .mul => mulV a b σ Q
  | .sub => ii a b fun i j => Q (.int (i - j)) σ
  | .fdiv => ii a b fun i j => j ≠ 0 ∧ j.natAbs.log2 < 9000 ∧ Q (.int (i.fdiv j)) σ
  | .mod => ii a b fun i j => j ≠ 0 ∧ Q (.int (i.fmod j)) σ
  | .shl => ii a b fun i j => 0 ≤ j ∧ (ibits i : Int) + j ≤ 2 ^ 27 ∧ Q (.int (i * 2 ^ j.toNat)) σ
  | .shr => ii a b fun i j => 0 ≤ j ∧ Q (.int (i.fdiv (2 ^ j.toNat))) σ
  | .band => ii a b fun i j => Q (.int (Builtin.bitAnd i j)) σ
  | .bor => ii a b fun i j => Q (.int (Builtin.bitOr i j)) σ
  | .bxor => ii a b fun i j => Q (.int (Builtin.bitXor i j)) σ
  | .pow => ii a b fun i j => 0 ≤ j ∧ j ≤ 1000000 ∧ i.natAbs < 2 ^ 64 ∧ Q (.int (i ^ j.toNat)) σ

mutual
/-- what a value reads as -/
inductive Rd (σ : AH) : AV → PyData → Prop where
  | none : Rd σ .none .none
  | int (i : Int) : Rd σ (.int i) (.int i)
  | str (s : List Nat) : Rd σ (.str s) (.str ⟨s.toArray⟩)
  | list {a xs ds} : σ a = some (.list xs) → RdAll σ xs ds → Rd σ (.ref a) (.list ds)
  | tup {a xs ds} : σ a = some (.tup xs) → RdAll σ xs ds → Rd σ (.ref a) (.tuple ds)
inductive RdAll (σ : AH) : List AV → List PyData → Prop where
  | nil : RdAll σ [] []
  | cons {x xs d ds} : Rd σ x d → RdAll σ xs ds → RdAll σ (x :: xs) (d :: ds)
end

noncomputable def subIn (y x : List Nat) : Bool := !(Builtin.Str.occurrences ⟨x.toArray⟩ ⟨y.toArray⟩ 0 (Str.length ⟨x.toArray⟩) 1).isEmpty

noncomputable def strsOf : List AV → Option (List (List Nat))
  | [] => some []
  | .str s :: r => (strsOf r).map (s :: ·)
  | _ :: _ => none

noncomputable def eqB (a b : AV) : Option Bool := match a, b with
  | .int i, .int j => some (decide (i = j))
  | .str x, .str y => some (decide (x = y))
  | .bool x, .bool y => some (x == y)
  | .none, .none => some true
  | _, _ => none
noncomputable def eqV (a b : AV) (σ : AH) (Q : Bool → AH → Prop) : Prop := match eqB a b with
  | some c => Q c σ
  | none => ∃ d d', Rd σ a d ∧ Rd σ b d' ∧ SeqAt.shaped d = true ∧ SeqAt.shaped d' = true ∧ Q (PyData.eqv d d') σ

noncomputable def inO (x : List Nat) (o : AO) (σ : AH) (Q : VQ) : Prop := match o with
  | .tup xs => ∃ ys, strsOf xs = some ys ∧ Q (.bool (ys.any (· == x))) σ
  | .dict l => Q (.bool (l.lookup x).isSome) σ
  | _ => False
noncomputable def inV (x : List Nat) (b : AV) (σ : AH) (Q : VQ) : Prop := match b with
  | .str y => Q (.bool (subIn x y)) σ
  | .ref t => ∃ o, σ t = some o ∧ inO x o σ Q
  | _ => False
noncomputable def cmpV (o : COp) (a b : AV) (σ : AH) (Q : VQ) : Prop := match o with
  | .eq => eqV a b σ fun c σ' => Q (.bool c) σ'
  | .ne => eqV a b σ fun c σ' => Q (.bool (!c)) σ'
  | .is => a ≠ .unb ∧ b = .none ∧ Q (.bool (decide (a = .none))) σ
  | .isnot => a ≠ .unb ∧ b = .none ∧ Q (.bool (!decide (a = .none))) σ
  | .isin => ∃ x, a = .str x ∧ inV x b σ Q
  | .lt => ii a b fun i j => Q (.bool (decide (i < j))) σ
  | .le => ii a b fun i j => Q (.bool (decide (i ≤ j))) σ
  | .gt => ii a b fun i j => Q (.bool (decide (j < i))) σ
  | .ge => ii a b fun i j => Q (.bool (decide (j ≤ i))) σ

noncomputable def truV (a : AV) (Q : Bool → Prop) : Prop := match a with
  | .bool b => Q b
  | .str s => s.length ≤ big ∧ Q (!s.isEmpty)
  | _ => False

noncomputable def Small (i : Int) : Prop := -(2 ^ 63) ≤ i ∧ i < 2 ^ 63
noncomputable def idxO (o : AO) (b : AV) (σ : AH) (Q : VQ) : Prop := match o with
  | .list xs => ∃ i k x, b = .int i ∧ Small i ∧ seqIndex? i xs.length = some k ∧ xs[k]? = some x ∧ Q x σ
  | .tup xs => ∃ i k x, b = .int i ∧ Small i ∧ seqIndex? i xs.length = some k ∧ xs[k]? = some x ∧ Q x σ
  | .ro xs => ∃ i n, b = .int i ∧ Small i ∧ 0 ≤ i ∧ xs[i.toNat]? = some n ∧ Q (.int n) σ
  | .dict l => ∃ x n, b = .str x ∧ l.lookup x = some n ∧ Q (.int n) σ
  | _ => False
noncomputable def idxV (a b : AV) (σ : AH) (Q : VQ) : Prop := match a with
  | .str s => ∃ i k c, b = .int i ∧ Small i ∧ seqIndex? i s.length = some k ∧ s[k]? = some c ∧ Q (.str [c]) σ
  | .byt s => ∃ i c, b = .int i ∧ 0 ≤ i ∧ s.length ≤ 1000 ∧ s[i.toNat]? = some c ∧ Q (.int c) σ
  | .ref t => ∃ o, σ t = some o ∧ idxO o b σ Q
  | _ => False

noncomputable def optI : AV → Option (Option Int)
  | .none => some none
  | .int i => some (some i)
  | _ => none

/-- a cut of a text, as the model clamps it -/
noncomputable def cutS (s : List Nat) (l u : Option Int) : List Nat := (Txt.slice ⟨s.toArray⟩ l u).cps.toList

noncomputable def slcV (a l u : AV) (σ : AH) (Q : VQ) : Prop := match a with
  | .str s => ∃ x y, optI l = some x ∧ optI u = some y ∧ s.length ≤ big ∧ Q (.str (cutS s x y)) σ
  | .ref t => ∃ xs, σ t = some (.tup xs) ∧ l = .none ∧ u = .int 2 ∧ xs.length = 3 ∧ newO σ (.tup (xs.take 2)) Q
  | _ => False

/-- a part of an object, and how long it is -/
noncomputable def AO.part (o : AO) (k : Nat) : Option AV := match o with
  | .sum p m n => [AV.str p, .str m, .int n][k]?
  | .piece x y z => if k < 3 then none else [AV.str x, .str y, z][k - 3]?
  | _ => none
noncomputable def AO.len (o : AO) : Option Nat := match o with
  | .list xs => some xs.length
  | .tup xs => some xs.length
  | .ro xs => some xs.length
  | _ => none
noncomputable def attrV (a : AV) (k : Nat) (σ : AH) (Q : VQ) : Prop := ∃ t o v, a = .ref t ∧ σ t = some o ∧ o.part k = some v ∧ Q v σ

noncomputable def lenV (a : AV) (σ : AH) (n : Nat) : Prop := match a with
  | .str s => n = s.length
  | .byt s => n = s.length
  | .ref t => ∃ o, σ t = some o ∧ o.len = some n
  | _ => False
noncomputable def b1V (f : B1) (a : AV) (σ : AH) (Q : VQ) : Prop := match f with
  | .len => ∃ n, lenV a σ n ∧ n ≤ big ∧ Q (.int n) σ
  | .abs => ∃ i, a = .int i ∧ Q (.int (if i < 0 then -i else i)) σ
  | .chr => ∃ i, a = .int i ∧ 0 ≤ i ∧ i ≤ 1114111 ∧ Q (.str [i.toNat]) σ
  | .ord => ∃ c, a = .str [c] ∧ Q (.int c) σ
  | .bytes => ∃ t b, a = .ref t ∧ σ t = some (.barr b) ∧ b.length ≤ 1000 ∧ Q (.byt b) σ

noncomputable def m0V (f : M0) (a : AV) (σ : AH) (Q : VQ) : Prop := match f with
  | .lower => ∃ s, a = .str s ∧ s.length ≤ 1000 ∧ (∀ c ∈ s, c < 128) ∧ Q (.str (s.map lo1)) σ
  | .isdigit => ∃ s, a = .str s ∧ Q (.bool (Txt.isdigit ⟨s.toArray⟩)) σ
  | .pop => ∃ t xs x, a = .ref t ∧ σ t = some (.list (xs ++ [x])) ∧ xs.length < big ∧ Q x (σ.set t (.list xs))

inductive MK where | find | startswith | lapp
/-- which method a name is, upon a value -/
noncomputable def m1K (f : M1) (a : AV) (σ : AH) (k : MK) : Prop := match f with
  | .find => k = .find ∧ ∃ s, a = .str s
  | .startswith => k = .startswith ∧ ∃ s, a = .str s
  | .append => k = .lapp ∧ ∃ t xs, a = .ref t ∧ σ t = some (.list xs)
noncomputable def m1V (f : MK) (a b : AV) (σ : AH) (Q : VQ) : Prop := match f with
  | .find => ∃ s x, a = .str s ∧ b = .str x ∧ Q (.int (Txt.find ⟨s.toArray⟩ ⟨x.toArray⟩)) σ
  | .startswith => ∃ s x, a = .str s ∧ b = .str x ∧ Q (.bool (Txt.startswith ⟨s.toArray⟩ ⟨x.toArray⟩)) σ
  | .lapp => ∃ t xs, a = .ref t ∧ b ≠ .unb ∧ σ t = some (.list xs) ∧ xs.length < big ∧ Q .none (σ.set t (.list (xs ++ [b])))

noncomputable def pieceV : AV → Bool | .int _ => true | .byt _ => true | _ => false
noncomputable def mkV (c : Nat) (x y z : AV) (σ : AH) (Q : VQ) : Prop := match c with
  | 0 => ∃ p m n, x = .str p ∧ y = .str m ∧ z = .int n ∧ newO σ (.sum p m n) Q
  | 1 => ∃ k t, x = .str k ∧ y = .str t ∧ pieceV z = true ∧ newO σ (.piece k t z) Q
  | _ => False

/-- the global values of the text -/
noncomputable def aPARTS : Nat := 64
noncomputable def aLEVELS : Nat := 65
noncomputable def aMARKS : Nat := 171
noncomputable def aILL : Nat := 172
noncomputable def sBEGINS : List Nat := [97, 98, 99, 100, 101, 102, 103, 104, 105, 106, 107, 108, 109, 110, 111, 112, 113, 114, 115, 116, 117, 118, 119, 120, 121, 122, 65, 66, 67, 68, 69, 70, 71, 72, 73, 74, 75, 76, 77, 78, 79, 80, 81, 82, 83, 84, 85, 86, 87, 88, 89, 90, 95, 46, 36]
noncomputable def sDIGITS : List Nat := [48, 49, 50, 51, 52, 53, 54, 55, 56, 57]
noncomputable def gval : Nat → AV
  | 0 => .str sBEGINS | 1 => .str sDIGITS | 2 => .str (sBEGINS ++ sDIGITS) | 3 => .ref aPARTS | 4 => .ref aLEVELS | 5 => .ref aMARKS | 6 => .ref aILL | _ => .unb

inductive Out where | next | ret (v : AV)
noncomputable def Out.val : Out → AV | .next => .none | .ret v => v

noncomputable def ewp (C : CallT) : AE → List AV → AH → VQ → (AH → Prop) → Prop
  | .loc i, ρ, σ, Q, _ => ρ.getD i .unb ≠ .unb ∧ Q (ρ.getD i .unb) σ
  | .gv g, _, σ, Q, _ => Q (gval g) σ
  | .int i, _, σ, Q, _ => Q (.int i) σ
  | .str s, _, σ, Q, _ => Q (.str s) σ
  | .bool b, _, σ, Q, _ => Q (.bool b) σ
  | .none, _, σ, Q, _ => Q .none σ
  | .bin o a b, ρ, σ, Q, E => ewp C a ρ σ (fun x σ₁ => ewp C b ρ σ₁ (fun y σ₂ => binV o x y σ₂ Q) E) E
  | .neg a, ρ, σ, Q, E => ewp C a ρ σ (fun x σ₁ => ∃ i, x = .int i ∧ Q (.int (-i)) σ₁) E
  | .not a, ρ, σ, Q, E => ewp C a ρ σ (fun x σ₁ => truV x fun b => Q (.bool (!b)) σ₁) E
  | .cmp o a b, ρ, σ, Q, E => ewp C a ρ σ (fun x σ₁ => ewp C b ρ σ₁ (fun y σ₂ => cmpV o x y σ₂ Q) E) E
  | .chain a o₁ b o₂ c, ρ, σ, Q, E => ewp C a ρ σ (fun x σ₁ => ewp C b ρ σ₁ (fun y σ₂ => cmpV o₁ x y σ₂ fun t σ₃ => truV t fun g =>
      if g then ewp C c ρ σ₃ (fun z σ₄ => cmpV o₂ y z σ₄ Q) E else Q t σ₃) E) E
  | .and a b, ρ, σ, Q, E => ewp C a ρ σ (fun x σ₁ => truV x fun g => if g then ewp C b ρ σ₁ Q E else Q x σ₁) E
  | .or a b, ρ, σ, Q, E => ewp C a ρ σ (fun x σ₁ => truV x fun g => if g then Q x σ₁ else ewp C b ρ σ₁ Q E) E
  | .ife c a b, ρ, σ, Q, E => ewp C c ρ σ (fun x σ₁ => truV x fun g => if g then ewp C a ρ σ₁ Q E else ewp C b ρ σ₁ Q E) E
  | .attr a k, ρ, σ, Q, E => ewp C a ρ σ (fun x σ₁ => attrV x k σ₁ Q) E
  | .idx a b, ρ, σ, Q, E => ewp C a ρ σ (fun x σ₁ => ewp C b ρ σ₁ (fun y σ₂ => idxV x y σ₂ Q) E) E
  | .slc a l u, ρ, σ, Q, E => ewp C a ρ σ (fun x σ₁ => ewp C l ρ σ₁ (fun y σ₂ => ewp C u ρ σ₂ (fun z σ₃ => slcV x y z σ₃ Q) E) E) E
  | .tup2 a b, ρ, σ, Q, E => ewp C a ρ σ (fun x σ₁ => ewp C b ρ σ₁ (fun y σ₂ => newO σ₂ (.tup [x, y]) Q) E) E
  | .tup3 a b c, ρ, σ, Q, E => ewp C a ρ σ (fun x σ₁ => ewp C b ρ σ₁ (fun y σ₂ => ewp C c ρ σ₂ (fun z σ₃ => newO σ₃ (.tup [x, y, z]) Q) E) E) E
  | .tup4 a b c d, ρ, σ, Q, E => ewp C a ρ σ (fun x σ₁ => ewp C b ρ σ₁ (fun y σ₂ => ewp C c ρ σ₂ (fun z σ₃ => ewp C d ρ σ₃ (fun u σ₄ => newO σ₄ (.tup [x, y, z, u]) Q) E) E) E) E
  | .tupI l, _, σ, Q, _ => newO σ (.tup (l.map .int)) Q
  | .lst0, _, σ, Q, _ => newO σ (.list []) Q
  | .lst1 a, ρ, σ, Q, E => ewp C a ρ σ (fun x σ₁ => newO σ₁ (.list [x]) Q) E
  | .lst3 a b c, ρ, σ, Q, E => ewp C a ρ σ (fun x σ₁ => ewp C b ρ σ₁ (fun y σ₂ => ewp C c ρ σ₂ (fun z σ₃ => newO σ₃ (.list [x, y, z]) Q) E) E) E
  | .dictI l, _, σ, Q, _ => newO σ (.dict l) Q
  | .comp, ρ, σ, Q, _ => ∃ a xs, ρ.getD 0 .unb = .ref a ∧ σ a = some (.ro xs) ∧ xs.length ≤ 1000 ∧ newO σ (.ro ((xs.take 40).map fun i => i.fmod 2147483647)) Q
  | .call0 f, _, σ, Q, E => C f [] σ Q E
  | .call1 f a, ρ, σ, Q, E => ewp C a ρ σ (fun x σ₁ => C f [x] σ₁ Q E) E
  | .call2 f a b, ρ, σ, Q, E => ewp C a ρ σ (fun x σ₁ => ewp C b ρ σ₁ (fun y σ₂ => C f [x, y] σ₂ Q E) E) E
  | .call3 f a b c, ρ, σ, Q, E => ewp C a ρ σ (fun x σ₁ => ewp C b ρ σ₁ (fun y σ₂ => ewp C c ρ σ₂ (fun z σ₃ => C f [x, y, z] σ₃ Q E) E) E) E
  | .call4 f a b c d, ρ, σ, Q, E => ewp C a ρ σ (fun x σ₁ => ewp C b ρ σ₁ (fun y σ₂ => ewp C c ρ σ₂ (fun z σ₃ => ewp C d ρ σ₃ (fun u σ₄ => C f [x, y, z, u] σ₄ Q E) E) E) E) E
  | .mk c x y z, ρ, σ, Q, E => ewp C x ρ σ (fun p σ₁ => ewp C y ρ σ₁ (fun q σ₂ => ewp C z ρ σ₂ (fun r σ₃ => mkV c p q r σ₃ Q) E) E) E
  | .meth f a, ρ, σ, Q, E => ewp C a ρ σ (fun x σ₁ => (∃ t p m n, x = .ref t ∧ σ₁ t = some (.sum p m n)) ∧ C f [x] σ₁ Q E) E
  | .b1 f a, ρ, σ, Q, E => ewp C a ρ σ (fun x σ₁ => b1V f x σ₁ Q) E
  | .barr, _, _, _, _ => False
  | .m0 f a, ρ, σ, Q, E => ewp C a ρ σ (fun x σ₁ => m0V f x σ₁ Q) E
  | .m1 f a b, ρ, σ, Q, E => ewp C a ρ σ (fun x σ₁ => ∃ k, m1K f x σ₁ k ∧ ewp C b ρ σ₁ (fun y σ₂ => m1V k x y σ₂ Q) E) E

noncomputable abbrev SQ := Out → List AV → AH → Prop

noncomputable def whileN (T : List AV → AH → (AV → AH → Prop) → Prop) (B : List AV → AH → SQ → Prop) (Q : SQ) : Nat → List AV → AH → Prop
  | 0, _, _ => False
  | k + 1, ρ, σ => T ρ σ fun v σ₁ => truV v fun b => if b then B ρ σ₁ (fun o ρ₂ σ₂ => match o with | .next => whileN T B Q k ρ₂ σ₂ | .ret v => Q (.ret v) ρ₂ σ₂) else Q .next ρ σ₁

noncomputable def forN {X : Type} (G : AH → Prop) (S : X → List AV → List AV) (B : List AV → AH → SQ → Prop) (Q : SQ) : List X → List AV → AH → Prop
  | [], ρ, σ => G σ ∧ Q .next ρ σ
  | x :: xs, ρ, σ => G σ ∧ B (S x ρ) σ (fun o ρ₂ σ₂ => match o with | .next => forN G S B Q xs ρ₂ σ₂ | .ret v => Q (.ret v) ρ₂ σ₂)

noncomputable def forV (v : AV) (σ : AH) (K : (AH → Prop) → List AV → Prop) : Prop := match v with
  | .str s => s.all (· < 128) = true ∧ K (fun _ => True) (s.map fun c => .str [c])
  | .ref a => ∃ xs, σ a = some (.list xs) ∧ xs.length ≤ big ∧ K (fun σ' => σ' a = some (.list xs)) xs
  | _ => False

noncomputable def swp (C : CallT) : AS → List AV → AH → SQ → (AH → Prop) → Prop
  | .skip, ρ, σ, Q, _ => Q .next ρ σ
  | .seq s t, ρ, σ, Q, E => swp C s ρ σ (fun o ρ₁ σ₁ => match o with | .next => swp C t ρ₁ σ₁ Q E | .ret v => Q (.ret v) ρ₁ σ₁) E
  | .asg i e, ρ, σ, Q, E => ewp C e ρ σ (fun v σ₁ => v ≠ .unb ∧ Q .next (ρ.set i v) σ₁) E
  | .asg2 i j e, ρ, σ, Q, E => ewp C e ρ σ (fun v σ₁ => ∃ a x y, v = .ref a ∧ σ₁ a = some (.tup [x, y]) ∧ Q .next ((ρ.set i x).set j y) σ₁) E
  | .asg3 i j k e, ρ, σ, Q, E => ewp C e ρ σ (fun v σ₁ => ∃ a x y z, v = .ref a ∧ σ₁ a = some (.tup [x, y, z]) ∧ Q .next (((ρ.set i x).set j y).set k z) σ₁) E
  | .setidx a b e, ρ, σ, Q, E => ewp C e ρ σ (fun v σ₁ => ewp C a ρ σ₁ (fun x σ₂ => ewp C b ρ σ₂ (fun y σ₃ =>
      ∃ t k xs, x = .ref t ∧ y = .int k ∧ σ₃ t = some (.list xs) ∧ 0 ≤ k ∧ k < 1000 ∧ k < xs.length ∧ v ≠ .unb ∧ Q .next ρ (σ₃.set t (.list (xs.set k.toNat v)))) E) E) E
  | .ret e, ρ, σ, Q, E => ewp C e ρ σ (fun v σ₁ => Q (.ret v) ρ σ₁) E
  | .ite c s t, ρ, σ, Q, E => ewp C c ρ σ (fun v σ₁ => truV v fun b => if b then swp C s ρ σ₁ Q E else swp C t ρ σ₁ Q E) E
  | .while c s, ρ, σ, Q, E => ∃ k, whileN (fun ρ σ q => ewp C c ρ σ q E) (fun ρ σ q => swp C s ρ σ q E) Q k ρ σ
  | .forIn i e s, ρ, σ, Q, E => ewp C e ρ σ (fun v σ₁ => forV v σ₁ fun G xs => forN G (fun x ρ => ρ.set i x) (fun ρ σ q => swp C s ρ σ q E) Q xs ρ σ₁) E
  | .forZip i j e f s, ρ, σ, Q, E => ewp C e ρ σ (fun v σ₁ => ewp C f ρ σ₁ (fun u σ₂ => ∃ a b xs ys, v = .ref a ∧ u = .ref b ∧ σ₂ a = some (.list xs) ∧ σ₂ b = some (.list ys) ∧ xs.length = ys.length ∧ xs.length ≤ big ∧
      forN (fun σ' => σ' a = some (.list xs) ∧ σ' b = some (.list ys)) (fun (p : AV × AV) ρ => (ρ.set i p.1).set j p.2) (fun ρ σ q => swp C s ρ σ q E) Q (xs.zip ys) ρ σ₂) E) E
  | .forRange i n s, ρ, σ, Q, E => n ≤ 100 ∧ forN (fun _ => True) (fun (k : Nat) ρ => ρ.set i (.int k)) (fun ρ σ q => swp C s ρ σ q E) Q (List.range n) ρ σ
  | .expr e, ρ, σ, Q, E => ewp C e ρ σ (fun _ σ₁ => Q .next ρ σ₁) E
  | .fault i, ρ, σ, _, E => ρ.getD i .unb ≠ .unb ∧ E σ
  | .tryF s t, ρ, σ, Q, E => swp C s ρ σ Q (fun σ₁ => swp C t (List.replicate ρ.length .unb) σ₁ Q E)

set_option genInjectivity false in
structure AFun where
  nm : String
  np : Nat
  vars : List Str
  body : AS

noncomputable def cwp (F : Nat → Option AFun) : Nat → CallT
  | 0 => fun _ _ _ _ _ => False
  | n + 1 => fun f args σ Q E => ∃ fn, F f = some fn ∧ args.length = fn.np ∧ (∀ v ∈ args, v ≠ .unb) ∧ swp (cwp F n) fn.body (args ++ List.replicate (fn.vars.length - fn.np) .unb) σ (fun o _ σ' => Q o.val σ') E

end Nm
end

section
open PySem PySem.W PySem.Calls PyProof.Rows
set_option tactic.hygienic false
namespace Nm

noncomputable def VR : AV → Value → Prop
  | .unb, _ => False
  | .none, v => v = .none
  | .bool b, v => v = .bool b
  | .int i, v => ∃ t, v = .int i t
  | .str s, v => ∃ t, v = .str ⟨s.toArray⟩ t
  | .byt s, v => ∃ (l : List UInt8) (t : Tok), v = .bytes l.toArray t ∧ l.map (·.toNat) = s
  | .ref a, v => v = .ref a

noncomputable def VRs : List AV → List Value → Prop
  | [], [] => True
  | x :: xs, v :: vs => VR x v ∧ VRs xs vs
  | _, _ => False

theorem VRs.length : ∀ {xs : List AV} {vs : List Value}, VRs xs vs → xs.length = vs.length
  | [], [], _ => rfl
  | [], _ :: _, h => h.elim
  | _ :: _, [], h => h.elim
  | _ :: _, _ :: _, h => congrArg (· + 1) h.2.length
theorem VRs.get : ∀ {xs : List AV} {vs : List Value} {k : Nat} {x : AV}, VRs xs vs → xs[k]? = some x → ∃ v, vs[k]? = some v ∧ VR x v
  | [], [], _, _, _, e => by simp at e
  | [], _ :: _, _, _, h, _ => h.elim
  | _ :: _, [], _, _, h, _ => h.elim
  | y :: ys, v :: vs, 0, x, h, e => by simp at e; subst e; exact ⟨v, rfl, h.1⟩
  | y :: ys, v :: vs, k + 1, x, h, e => by simp at e; simpa using h.2.get e
theorem VRs.append : ∀ {xs ys : List AV} {vs us : List Value}, VRs xs vs → VRs ys us → VRs (xs ++ ys) (vs ++ us)
  | [], _, [], _, _, h => h
  | [], _, _ :: _, _, h, _ => h.elim
  | _ :: _, _, [], _, h, _ => h.elim
  | _ :: _, _, _ :: _, _, h, h' => ⟨h.1, h.2.append h'⟩
theorem VRs.set : ∀ {xs : List AV} {vs : List Value} {k : Nat} {x : AV} {v : Value}, VRs xs vs → VR x v → VRs (xs.set k x) (vs.set k v)
  | [], [], _, _, _, _, _ => trivial
  | [], _ :: _, _, _, _, h, _ => h.elim
  | _ :: _, [], _, _, _, h, _ => h.elim
  | _ :: _, _ :: _, 0, _, _, h, hx => ⟨hx, h.2⟩
  | _ :: _, _ :: _, _ + 1, _, _, h, hx => ⟨h.1, h.2.set hx⟩
theorem VRs.init : ∀ {xs : List AV} {x : AV} {vs : List Value}, VRs (xs ++ [x]) vs → ∃ us v, vs = us ++ [v] ∧ VRs xs us ∧ VR x v
  | [], x, [v], h => ⟨[], v, rfl, trivial, h.1⟩
  | [], _, [], h => h.elim
  | [], _, _ :: _ :: _, h => h.2.elim
  | _ :: _, _, [], h => h.elim
  | y :: ys, x, v :: vs, h => by
    obtain ⟨us, u, e, h1, h2⟩ := VRs.init h.2
    exact ⟨v :: us, u, by rw [e]; rfl, ⟨h.1, h1⟩, h2⟩
theorem VRs.take : ∀ {xs : List AV} {vs : List Value} (n : Nat), VRs xs vs → VRs (xs.take n) (vs.take n)
  | [], [], _, _ => by simp [VRs]
  | [], _ :: _, _, h => h.elim
  | _ :: _, [], _, h => h.elim
  | _ :: _, _ :: _, 0, _ => trivial
  | _ :: _, _ :: _, n + 1, h => ⟨h.1, h.2.take n⟩

noncomputable def cSUM : Addr := 38
noncomputable def cPIECE : Addr := 82
noncomputable def cAF : Addr := 59
noncomputable def tabs : List Addr := [64, 171, 172]

noncomputable def DR : List (List Nat × Int) → List (Str × Value) → Prop
  | [], [] => True
  | (k, n) :: l, (x, v) :: r => x = ⟨k.toArray⟩ ∧ (∃ t, v = .int n t) ∧ DR l r
  | _, _ => False

section
variable (prog : Program) (w : World) (base : Heap) (fr : List Addr) (h : Heap)

/-- an own object stands at an address -/
noncomputable def OR (a : Addr) : AO → Prop
  | .list xs => a ∉ fr ∧ (∃ vs n, IsL h a vs n ∧ VRs xs vs.toList) ∧ base.get? a = none
  | .tup xs => a ∉ fr ∧ (∃ vs n, IsT h a vs n ∧ VRs xs vs.toList) ∧ (base.get? a = none ∨ a ∈ tabs)
  | .sum p m n => a ∉ fr ∧ ∃ d es k, h.get? a = some (instObj cSUM d) ∧ h.get? d = some (dictOf es k) ∧ d ∉ fr ∧
      (∃ v, getL "plus" es = some (some v) ∧ VR (.str p) v) ∧ (∃ v, getL "minus" es = some (some v) ∧ VR (.str m) v) ∧ (∃ v, getL "number" es = some (some v) ∧ VR (.int n) v) ∧ getL "is_number" es = some none
  | .piece p m n => a ∉ fr ∧ ∃ d es k, h.get? a = some (instObj cPIECE d) ∧ h.get? d = some (dictOf es k) ∧ d ∉ fr ∧
      (∃ v, getL "kind" es = some (some v) ∧ VR (.str p) v) ∧ (∃ v, getL "text" es = some (some v) ∧ VR (.str m) v) ∧ (∃ v, getL "value" es = some (some v) ∧ VR n v)
  | .barr b => a ∉ fr ∧ (∃ l : List UInt8, h.get? a = some { cls := .type "bytearray", data := .bytearray l.toArray 0 } ∧ l.map (·.toNat) = b) ∧ base.get? a = none
  | .dict l => a ∉ fr ∧ (a == sysModules) = false ∧ ∃ kvs, h.DictOf (strKind prog w) a kvs ∧ DR l kvs
  | .ro xs => a ∉ fr ∧ ∃ vs : List Value, h.IsList a vs.toArray ∧ IntsAre vs xs
end

variable {prog : Program} {w : World} {base h h' : Heap} {fr : List Addr} {a : Addr}

theorem OR.notin {o : AO} (x : OR prog w base fr h a o) : a ∉ fr := by cases o <;> exact x.1

theorem OR.there {o : AO} (x : OR prog w base fr h a o) : ∃ ob, h.get? a = some ob := by
  cases o with
  | list xs => obtain ⟨_, ⟨vs, n, q, _⟩, _⟩ := x; exact ⟨_, q⟩
  | tup xs => obtain ⟨_, ⟨vs, n, q, _⟩, _⟩ := x; exact ⟨_, q⟩
  | sum p m n => obtain ⟨_, d, es, k, q, _⟩ := x; exact ⟨_, q⟩
  | piece p m n => obtain ⟨_, d, es, k, q, _⟩ := x; exact ⟨_, q⟩
  | barr b => obtain ⟨_, ⟨l, q, _⟩, _⟩ := x; exact ⟨_, q⟩
  | dict l => obtain ⟨_, _, kvs, ⟨o, _, _, q, _⟩, _⟩ := x; exact ⟨_, q⟩
  | ro xs => obtain ⟨_, vs, ⟨o, q, _⟩, _⟩ := x; exact ⟨_, q⟩

/-- all that is not one address is kept, and that one is no dict -/
theorem OR.keepBut {o : AO} {b : Addr} (x : OR prog w base fr h a o) (hab : a ≠ b) (hk : ∀ c ob, c ≠ b → h.get? c = some ob → h'.get? c = some ob)
    (hb : b ∈ fr ∨ ∀ ob es n, h.get? b = some ob → ob.data ≠ .dict es n) : OR prog w base fr h' a o := by
  have hd : ∀ d es k, h.get? d = some (dictOf es k) → d ∉ fr → d ≠ b := fun d es k q nf e => by
    rcases hb with hb | hb
    · exact nf (e ▸ hb)
    · exact hb _ _ _ (e ▸ q) rfl
  cases o with
  | list xs => obtain ⟨f, ⟨vs, n, q, r⟩, z⟩ := x; exact ⟨f, ⟨vs, n, hk _ _ hab q, r⟩, z⟩
  | tup xs => obtain ⟨f, ⟨vs, n, q, r⟩, z⟩ := x; exact ⟨f, ⟨vs, n, hk _ _ hab q, r⟩, z⟩
  | sum p m n => obtain ⟨f, d, es, k, q, q2, nf, r⟩ := x; exact ⟨f, d, es, k, hk _ _ hab q, hk _ _ (hd _ _ _ q2 nf) q2, nf, r⟩
  | piece p m n => obtain ⟨f, d, es, k, q, q2, nf, r⟩ := x; exact ⟨f, d, es, k, hk _ _ hab q, hk _ _ (hd _ _ _ q2 nf) q2, nf, r⟩
  | barr b => obtain ⟨f, ⟨l, q, r⟩, z⟩ := x; exact ⟨f, ⟨l, hk _ _ hab q, r⟩, z⟩
  | dict l => obtain ⟨f, sm, kvs, ⟨o, es, ep, q, r⟩, z⟩ := x; exact ⟨f, sm, kvs, ⟨o, es, ep, hk _ _ hab q, r⟩, z⟩
  | ro xs => obtain ⟨f, vs, ⟨o, q, r⟩, z⟩ := x; exact ⟨f, vs, ⟨o, hk _ _ hab q, r⟩, z⟩

theorem OR.keeps {o : AO} (x : OR prog w base fr h a o) (hk : ∀ c ob, h.get? c = some ob → h'.get? c = some ob) : OR prog w base fr h' a o := by
  cases o with
  | list xs => obtain ⟨f, ⟨vs, n, q, r⟩, z⟩ := x; exact ⟨f, ⟨vs, n, hk _ _ q, r⟩, z⟩
  | tup xs => obtain ⟨f, ⟨vs, n, q, r⟩, z⟩ := x; exact ⟨f, ⟨vs, n, hk _ _ q, r⟩, z⟩
  | sum p m n => obtain ⟨f, d, es, k, q, q2, nf, r⟩ := x; exact ⟨f, d, es, k, hk _ _ q, hk _ _ q2, nf, r⟩
  | piece p m n => obtain ⟨f, d, es, k, q, q2, nf, r⟩ := x; exact ⟨f, d, es, k, hk _ _ q, hk _ _ q2, nf, r⟩
  | barr b => obtain ⟨f, ⟨l, q, r⟩, z⟩ := x; exact ⟨f, ⟨l, hk _ _ q, r⟩, z⟩
  | dict l => obtain ⟨f, sm, kvs, ⟨o, es, ep, q, r⟩, z⟩ := x; exact ⟨f, sm, kvs, ⟨o, es, ep, hk _ _ q, r⟩, z⟩
  | ro xs => obtain ⟨f, vs, ⟨o, q, r⟩, z⟩ := x; exact ⟨f, vs, ⟨o, hk _ _ q, r⟩, z⟩

/-- all but the frames is kept -/
theorem OR.keepFr {o : AO} (x : OR prog w base fr h a o) (hk : ∀ c ob, c ∉ fr → h.get? c = some ob → h'.get? c = some ob) : OR prog w base fr h' a o := by
  cases o with
  | list xs => obtain ⟨f, ⟨vs, n, q, r⟩, z⟩ := x; exact ⟨f, ⟨vs, n, hk _ _ f q, r⟩, z⟩
  | tup xs => obtain ⟨f, ⟨vs, n, q, r⟩, z⟩ := x; exact ⟨f, ⟨vs, n, hk _ _ f q, r⟩, z⟩
  | sum p m n => obtain ⟨f, d, es, k, q, q2, nf, r⟩ := x; exact ⟨f, d, es, k, hk _ _ f q, hk _ _ nf q2, nf, r⟩
  | piece p m n => obtain ⟨f, d, es, k, q, q2, nf, r⟩ := x; exact ⟨f, d, es, k, hk _ _ f q, hk _ _ nf q2, nf, r⟩
  | barr b => obtain ⟨f, ⟨l, q, r⟩, z⟩ := x; exact ⟨f, ⟨l, hk _ _ f q, r⟩, z⟩
  | dict l => obtain ⟨f, sm, kvs, ⟨o, es, ep, q, r⟩, z⟩ := x; exact ⟨f, sm, kvs, ⟨o, es, ep, hk _ _ f q, r⟩, z⟩
  | ro xs => obtain ⟨f, vs, ⟨o, q, r⟩, z⟩ := x; exact ⟨f, vs, ⟨o, hk _ _ f q, r⟩, z⟩

/-- with another list of frames -/
theorem OR.frames {o : AO} {fr' : List Addr} (x : OR prog w base fr h a o) (hf : ∀ b ob, h.get? b = some ob → b ∉ fr → b ∉ fr') : OR prog w base fr' h a o := by
  cases o with
  | list xs => obtain ⟨f, ⟨vs, n, q, r⟩, z⟩ := x; exact ⟨hf _ _ q f, ⟨vs, n, q, r⟩, z⟩
  | tup xs => obtain ⟨f, ⟨vs, n, q, r⟩, z⟩ := x; exact ⟨hf _ _ q f, ⟨vs, n, q, r⟩, z⟩
  | sum p m n => obtain ⟨f, d, es, k, q, q2, nf, r⟩ := x; exact ⟨hf _ _ q f, d, es, k, q, q2, hf _ _ q2 nf, r⟩
  | piece p m n => obtain ⟨f, d, es, k, q, q2, nf, r⟩ := x; exact ⟨hf _ _ q f, d, es, k, q, q2, hf _ _ q2 nf, r⟩
  | barr b => obtain ⟨f, ⟨l, q, r⟩, z⟩ := x; exact ⟨hf _ _ q f, ⟨l, q, r⟩, z⟩
  | dict l => obtain ⟨f, sm, kvs, ⟨o, es, ep, q, r⟩, z⟩ := x; exact ⟨hf _ _ q f, sm, kvs, ⟨o, es, ep, q, r⟩, z⟩
  | ro xs => obtain ⟨f, vs, ⟨o, q, r⟩, z⟩ := x; exact ⟨hf _ _ q f, vs, ⟨o, q, r⟩, z⟩

noncomputable abbrev Frs := List (Addr × (Str → Option Value))
noncomputable def Frs.ad (f : Frs) : List Addr := f.map (·.1)

structure St (prog : Program) (w : World) (base : Heap) (frs : Frs) (os : OsState) (σ : AH) (s : Shared) : Prop where
  stays : base.StaysIn s.heap
  fr : ∀ p ∈ frs, s.heap.Ns p.1 p.2 ∧ base.get? p.1 = none
  nd : frs.ad.Nodup
  ob : ∀ a o, σ a = some o → OR prog w base frs.ad s.heap a o
  gens : s.gens = #[]
  os : s.os = os

variable {frs : Frs} {os : OsState} {σ : AH} {s : Shared}

theorem St.frMem (S : St prog w base frs os σ s) {b : Addr} (hb : b ∈ frs.ad) : base.get? b = none ∧ ∃ o es ep, s.heap.get? b = some o ∧ o.data = .dict es ep := by
  obtain ⟨p, hp, rfl⟩ := List.mem_map.mp hb
  obtain ⟨⟨o, es, ep, h1, h2, _⟩, h3⟩ := S.fr p hp
  exact ⟨h3, o, es, ep, h1, h2⟩

theorem St.toks (S : St prog w base frs os σ s) (k : Nat) : St prog w base frs os σ { s with toks := k } := ⟨S.stays, S.fr, S.nd, S.ob, S.gens, S.os⟩

/-- what only grows -/
theorem St.grow (S : St prog w base frs os σ s) (h' : Heap) (k : Nat) (hk : ∀ b o, s.heap.get? b = some o → h'.get? b = some o) : St prog w base frs os σ { s with heap := h', toks := k } :=
  ⟨fun b o e => hk _ _ (S.stays b o e), fun p hp => ⟨(S.fr p hp).1.keeps hk, (S.fr p hp).2⟩, S.nd, fun a o e => (S.ob a o e).keeps hk, S.gens, S.os⟩

theorem AH.set_same (σ : AH) (a : Nat) (o : AO) : σ.set a o a = some o := by simp [AH.set]
theorem AH.set_ne (σ : AH) {a b : Nat} (o : AO) (h : b ≠ a) : σ.set a o b = σ b := by simp [AH.set, h]

/-- a new own object at an address that was free -/
theorem St.new (S : St prog w base frs os σ s) (h' : Heap) (k : Nat) {a : Addr} {o : AO} (hk : ∀ b ob, s.heap.get? b = some ob → h'.get? b = some ob)
    (ho : OR prog w base frs.ad h' a o) : St prog w base frs os (σ.set a o) { s with heap := h', toks := k } := by
  have G := S.grow h' k hk
  refine ⟨G.stays, G.fr, G.nd, fun b ob e => ?_, G.gens, G.os⟩
  by_cases q : b = a
  · subst q; rw [AH.set_same] at e; cases e; exact ho
  · rw [AH.set_ne _ _ q] at e; exact G.ob b ob e

/-- an address above all -/
theorem St.free (S : St prog w base frs os σ s) {a : Addr} (ha : s.heap.get? a = none) : σ a = none ∧ a ∉ frs.ad ∧ base.get? a = none := by
  refine ⟨?_, fun hm => ?_, ?_⟩
  · cases q : σ a with
    | none => rfl
    | some o => obtain ⟨ob, e⟩ := (S.ob a o q).there; rw [ha] at e; cases e
  · obtain ⟨_, _, _, _, e, _⟩ := S.frMem hm; rw [ha] at e; cases e
  · cases q : base.get? a with
    | none => rfl
    | some o => have := S.stays _ _ q; rw [ha] at this; cases this

/-- an own object turned in place -/
theorem St.turn (S : St prog w base frs os σ s) (h' : Heap) (k : Nat) {a : Addr} {o : AO} (hk : ∀ b ob, b ≠ a → s.heap.get? b = some ob → h'.get? b = some ob)
    (hb : base.get? a = none) (hf : a ∉ frs.ad) (hd : ∀ ob es n, s.heap.get? a = some ob → ob.data ≠ .dict es n)
    (ho : OR prog w base frs.ad h' a o) : St prog w base frs os (σ.set a o) { s with heap := h', toks := k } := by
  refine ⟨fun b ob e => hk b ob (fun q => by rw [q, hb] at e; cases e) (S.stays b ob e), fun p hp => ⟨?_, (S.fr p hp).2⟩, S.nd, fun b ob e => ?_, S.gens, S.os⟩
  · obtain ⟨⟨o', es, ep, h1, r⟩, _⟩ := S.fr p hp
    exact ⟨o', es, ep, hk _ _ (fun q => hf (by rw [← q]; exact List.mem_map.mpr ⟨p, hp, rfl⟩)) h1, r⟩
  · by_cases q : b = a
    · subst q; rw [AH.set_same] at e; cases e; exact ho
    · rw [AH.set_ne _ _ q] at e; exact (S.ob b ob e).keepBut q hk (.inr hd)

/-- a name stored in the frame on top -/
theorem St.store {L : Addr} {m m' : Str → Option Value} (S : St prog w base ((L, m) :: frs) os σ s) (h' : Heap) (k : Nat) (hn : h'.Ns L m') (hs : Heap.SameBut L s.heap h') :
    St prog w base ((L, m') :: frs) os σ { s with heap := h', toks := k } := by
  have hk : ∀ b ob, b ≠ L → s.heap.get? b = some ob → h'.get? b = some ob := fun b ob n e => (hs.2 b n).trans e
  have hL := (S.fr (L, m) (.head _)).2
  have hnd : L ∉ Frs.ad frs := (List.nodup_cons.mp S.nd).1
  refine ⟨fun b ob e => hk b ob (fun q => by rw [q, hL] at e; cases e) (S.stays b ob e), fun p hp => ?_, S.nd, fun b ob e => ?_, S.gens, S.os⟩
  · rcases List.mem_cons.mp hp with rfl | hp
    · exact ⟨hn, hL⟩
    · obtain ⟨⟨o', es, ep, h1, r⟩, h2⟩ := S.fr p (.tail _ hp)
      exact ⟨⟨o', es, ep, hk _ _ (fun q => hnd (by rw [← q]; exact List.mem_map.mpr ⟨p, hp, rfl⟩)) h1, r⟩, h2⟩
  · have x := S.ob b ob e
    exact x.keepBut (fun q => x.notin (by rw [q]; exact .head _)) hk (.inl (.head _))

theorem VRs.one {xs : List AV} {vs : List Value} {P : AV → Prop} (h : VRs xs vs) (q : match (generalizing := false) xs with | [x] => P x | _ => False) : ∃ x vx, xs = [x] ∧ vs = [vx] ∧ VR x vx ∧ P x := by
  cases xs with
  | nil => exact (show False from q).elim
  | cons x xs => cases xs with
    | cons _ _ => exact (show False from q).elim
    | nil => cases vs with
      | nil => exact (show False from h).elim
      | cons v vs => cases vs with
        | cons _ _ => exact (show False from h.2).elim
        | nil => exact ⟨x, v, rfl, rfl, h.1, q⟩
theorem VRs.two {xs : List AV} {vs : List Value} {P : AV → AV → Prop} (h : VRs xs vs) (q : match (generalizing := false) xs with | [x, y] => P x y | _ => False) : ∃ x y vx vy, xs = [x, y] ∧ vs = [vx, vy] ∧ VR x vx ∧ VR y vy ∧ P x y := by
  cases xs with
  | nil => exact (show False from q).elim
  | cons x xs => cases vs with
    | nil => exact (show False from h).elim
    | cons v vs =>
      obtain ⟨y, w, rfl, rfl, h2, q2⟩ := VRs.one (P := fun y => P x y) h.2 (by cases xs with | nil => exact q | cons y xs => cases xs <;> exact q)
      exact ⟨x, y, v, w, rfl, rfl, h.1, h2, q2⟩
theorem VRs.three {xs : List AV} {vs : List Value} {P : AV → AV → AV → Prop} (h : VRs xs vs) (q : match (generalizing := false) xs with | [x, y, z] => P x y z | _ => False) : ∃ x y z vx vy vz, xs = [x, y, z] ∧ vs = [vx, vy, vz] ∧ VR x vx ∧ VR y vy ∧ VR z vz ∧ P x y z := by
  cases xs with
  | nil => exact (show False from q).elim
  | cons x xs => cases vs with
    | nil => exact (show False from h).elim
    | cons v vs =>
      obtain ⟨y, z, w, u, rfl, rfl, h2, h3, q2⟩ := VRs.two (P := fun y z => P x y z) h.2 (by cases xs with | nil => exact q | cons y xs => cases xs with | nil => exact q | cons z xs => cases xs <;> exact q)
      exact ⟨x, y, z, v, w, u, rfl, rfl, h.1, h2, h3, q2⟩
end Nm
end

section
open PySem PySem.W PySem.Calls PyProof.Rows
set_option tactic.hygienic false
namespace Nm

noncomputable def opOf : BOp → PySem.Operator
  | .add => .Add | .sub => .Sub | .mul => .Mult | .fdiv => .FloorDiv | .mod => .Mod | .shl => .LShift | .shr => .RShift | .band => .BitAnd | .bor => .BitOr | .bxor => .BitXor | .pow => .Pow
noncomputable def cmpOf : COp → PySem.CmpOp
  | .lt => .Lt | .le => .LtE | .gt => .Gt | .ge => .GtE | .eq => .Eq | .ne => .NotEq | .isin => .In | .is => .Is | .isnot => .IsNot

section
variable (prog : Program) (w : World) (base : Heap) (frs : Frs) (os : OsState)
noncomputable def QQ (Q : VQ) : Value → Shared → Prop := fun v s' => ∃ av σ', VR av v ∧ St prog w base frs os σ' s' ∧ Q av σ'
end

variable {prog : Program} {w : World} {base : Heap} {frs : Frs} {os : OsState} {σ : AH} {s : Shared} {A : Around} {E : Value → Shared → Prop} {x y z : AV} {vx vy vz : Value} {Q : VQ}

theorem St.same (S : St prog w base frs os σ s) (k : Nat) (h : Q x σ) (hv : VR x vx) : QQ prog w base frs os Q vx { s with toks := k } := ⟨x, σ, hv, S.toks k, h⟩
theorem St.same0 (S : St prog w base frs os σ s) (h : Q x σ) (hv : VR x vx) : QQ prog w base frs os Q vx s := ⟨x, σ, hv, S, h⟩

theorem strLen (x : List Nat) : (Str.mk x.toArray).length = x.length := by simp [Str.length]
theorem strApp (x y : List Nat) : (Str.mk x.toArray ++ Str.mk y.toArray) = Str.mk (x ++ y).toArray := by
  apply PySem.Str.ext'
  rw [Str.cps_append]
  simp
theorem big_is : big = 16777216 := rfl

/-- a fresh list, made of exact items -/
theorem St.newList (S : St prog w base frs os σ s) {xs : List AV} {vs : Array Value} (hv : VRs xs vs.toList) (h : newO σ (.list xs) Q) (k : Nat) :
    QQ prog w base frs os Q (.ref s.heap.objs.size) { s with heap := s.heap.push { cls := .type "list", data := .seq vs }, toks := k } := by
  obtain ⟨f1, f2, f3⟩ := S.free (Heap.get?_none_of_le (Nat.le_refl _))
  exact ⟨.ref _, _, rfl, S.new (o := .list xs) _ k (fun b ob e => Heap.get?_push_of_some _ e) ⟨f2, ⟨vs, 0, IsL.new _ _, hv⟩, f3⟩, h _ f1⟩
theorem St.newTup (S : St prog w base frs os σ s) {xs : List AV} {vs : Array Value} (hv : VRs xs vs.toList) (h : newO σ (.tup xs) Q) (k : Nat) :
    QQ prog w base frs os Q (.ref s.heap.objs.size) { s with heap := s.heap.push { cls := .type "tuple", data := .seq vs }, toks := k } := by
  obtain ⟨f1, f2, f3⟩ := S.free (Heap.get?_none_of_le (Nat.le_refl _))
  exact ⟨.ref _, _, rfl, S.new (o := .tup xs) _ k (fun b ob e => Heap.get?_push_of_some _ e) ⟨f2, ⟨vs, 0, IsT.new _ _, hv⟩, .inl f3⟩, h _ f1⟩


theorem ii.vr {P : Int → Int → Prop} (hx : VR x vx) (hy : VR y vy) (h : ii x y P) : ∃ i j t u, vx = .int i t ∧ vy = .int j u ∧ P i j := by
  obtain ⟨i, j, rfl, rfl, h⟩ := h
  obtain ⟨t, e⟩ := hx
  obtain ⟨u, e'⟩ := hy
  exact ⟨i, j, t, u, e, e', h⟩
set_option tactic.hygienic true in
theorem add_sound (S : St prog w base frs os σ s) (hx : VR x vx) (hy : VR y vy) (h : addV x y σ Q) : wpAny (model prog w) A (binaryOp .Add vx vy) (QQ prog w base frs os Q) E s := by
  cases x <;> first | exact (show False from h).elim | skip
  case int i =>
    obtain ⟨j, rfl, h⟩ := h
    obtain ⟨t, rfl⟩ := hx; obtain ⟨u, rfl⟩ := hy; exact PyProof.Rows.add_int (S.same _ (x := .int (i + j)) h ⟨_, rfl⟩)
  case str a =>
    obtain ⟨b, rfl, h1, h⟩ := h
    obtain ⟨t, rfl⟩ := hx; obtain ⟨u, rfl⟩ := hy
    exact PyProof.Rows.add_str (fun t' tk => S.same _ (x := .str (a ++ b)) h ⟨t', by rw [strApp]⟩) (by rw [strLen, strLen, sizeLine_eq]; exact h1)
  case ref a =>
    obtain ⟨b, xs, ys, rfl, h1, h2, h3, h4⟩ := h
    cases hx; cases hy
    obtain ⟨_, ⟨vs, n, q1, r1⟩, _⟩ := S.ob _ _ h1
    obtain ⟨_, ⟨us, n', q2, r2⟩, _⟩ := S.ob _ _ h2
    refine P.add_list q1 q2 (S.newList (k := s.toks) (vs := vs ++ us) (by rw [Array.toList_append]; exact r1.append r2) h4) ?_
    rw [← Array.length_toList, ← Array.length_toList, ← r1.length, ← r2.length, sizeLine_eq]
    exact h3
set_option tactic.hygienic true in
theorem mul_sound (S : St prog w base frs os σ s) (hx : VR x vx) (hy : VR y vy) (h : mulV x y σ Q) : wpAny (model prog w) A (binaryOp .Mult vx vy) (QQ prog w base frs os Q) E s := by
  cases x <;> first | exact (show False from h).elim | skip
  case int i =>
    obtain ⟨j, rfl, h1, h⟩ := h
    obtain ⟨t, rfl⟩ := hx; obtain ⟨u, rfl⟩ := hy; exact PyProof.Rows.mul_int (S.same _ (x := .int (i * j)) h ⟨_, rfl⟩) h1
  case str a =>
    obtain ⟨j, rfl, h1, h2, h3⟩ := h
    obtain ⟨t, rfl⟩ := hx; obtain ⟨u, rfl⟩ := hy
    have b : j ≤ 1 ∧ -2 ^ 63 ≤ j := by rcases h2 with rfl | rfl <;> decide
    refine SB.mul (mulOk_of 16 1 (by rw [strLen]; exact h1) b.1 b.2 (by decide) (by decide)) fun t' k => S.same _ (x := .str _) h3 ⟨t', ?_⟩
    rcases h2 with rfl | rfl <;> rfl
theorem bin_sound (o : BOp) (S : St prog w base frs os σ s) (hx : VR x vx) (hy : VR y vy) (h : binV o x y σ Q) :
    wpAny (model prog w) A (binaryOp (opOf o) vx vy) (QQ prog w base frs os Q) E s := by
  cases o with
  | add => exact add_sound S hx hy h
  | mul => exact mul_sound S hx hy h
  | sub => obtain ⟨i, j, t, u, rfl, rfl, h⟩ := ii.vr hx hy h; exact PyProof.Rows.sub_int (S.same _ h ⟨_, rfl⟩)
  | fdiv => obtain ⟨i, j, t, u, rfl, rfl, h⟩ := ii.vr hx hy h; exact PyProof.Rows.floordiv_int h.1 (S.same _ h.2.2 ⟨_, rfl⟩) (.inl (PyProof.noPylong_of_log2 h.2.1))
  | mod => obtain ⟨i, j, t, u, rfl, rfl, h⟩ := ii.vr hx hy h; exact PyProof.Rows.mod_int' h.1 (S.same _ h.2 ⟨_, rfl⟩)
  | shl => obtain ⟨i, j, t, u, rfl, rfl, h⟩ := ii.vr hx hy h; exact PyProof.Rows.lshift_int h.1 h.2.1 (S.same _ h.2.2 ⟨_, rfl⟩)
  | shr => obtain ⟨i, j, t, u, rfl, rfl, h⟩ := ii.vr hx hy h; exact PyProof.Rows.rshift_int h.1 (S.same _ h.2 ⟨_, rfl⟩)
  | band => obtain ⟨i, j, t, u, rfl, rfl, h⟩ := ii.vr hx hy h; exact PyProof.Rows.and_int (S.same _ h ⟨_, rfl⟩)
  | bor => obtain ⟨i, j, t, u, rfl, rfl, h⟩ := ii.vr hx hy h; exact PyProof.Rows.or_int (S.same _ h ⟨_, rfl⟩)
  | bxor => obtain ⟨i, j, t, u, rfl, rfl, h⟩ := ii.vr hx hy h; exact PyProof.Rows.xor_int (S.same _ h ⟨_, rfl⟩)
  | pow => obtain ⟨i, j, t, u, rfl, rfl, h⟩ := ii.vr hx hy h; exact PyProof.Rows.pow_int_small h.1 h.2.1 h.2.2.1 (S.same _ h.2.2.2 ⟨_, rfl⟩)

mutual
theorem rd_reads (S : St prog w base frs os σ s) {x : AV} {d : PyData} {v : Value} (h : Rd σ x d) (hv : VR x v) : ∃ as, Reads s.heap v d as := by
  cases h with
  | none => cases hv; exact ⟨_, .none⟩
  | int i => obtain ⟨t, rfl⟩ := hv; exact ⟨_, .int i t⟩
  | str c => obtain ⟨t, rfl⟩ := hv; exact ⟨_, .str _ t⟩
  | list e r =>
    cases hv
    obtain ⟨_, ⟨vs, n, q, q2⟩, _⟩ := S.ob _ _ e
    obtain ⟨as, ra⟩ := rdAll_reads S r q2
    exact ⟨_, .list q rfl rfl ra⟩
  | tup e r =>
    cases hv
    obtain ⟨_, ⟨vs, n, q, q2⟩, _⟩ := S.ob _ _ e
    obtain ⟨as, ra⟩ := rdAll_reads S r q2
    exact ⟨_, .tuple q rfl rfl ra⟩
theorem rdAll_reads (S : St prog w base frs os σ s) {xs : List AV} {ds : List PyData} {vs : List Value} (h : RdAll σ xs ds) (hv : VRs xs vs) : ∃ as, ReadsAll s.heap vs ds as := by
  cases h with
  | nil => cases vs with
    | nil => exact ⟨_, .nil⟩
    | cons _ _ => exact hv.elim
  | cons h1 h2 => cases vs with
    | nil => exact hv.elim
    | cons v vs =>
      obtain ⟨as, a⟩ := rd_reads S h1 hv.1
      obtain ⟨bs, b⟩ := rdAll_reads S h2 hv.2
      exact ⟨_, .cons a b⟩
end

theorem intBeq (i j : Int) : (i == j) = decide (i = j) := by rw [Bool.eq_iff_iff]; simp
theorem strMk_eq (a b : List Nat) : (Str.mk a.toArray == Str.mk b.toArray) = decide (a = b) := by
  by_cases h : a = b
  · subst h; simp
  · have : Str.mk a.toArray ≠ Str.mk b.toArray := fun e => h (by simpa using congrArg (fun z => z.cps.toList) e)
    simp [h, this]

theorem noneSome {c : Bool} {P : Prop} (h : (none : Option Bool) = some c) : P := by cases h
theorem eqB_inv {c : Bool} (hx : VR x vx) (hy : VR y vy) (h : eqB x y = some c) : (∃ i j t u, vx = .int i t ∧ vy = .int j u ∧ c = decide (i = j)) ∨ (∃ (i j : List Nat) (t u : Tok), vx = .str ⟨i.toArray⟩ t ∧ vy = .str ⟨j.toArray⟩ u ∧ c = decide (i = j)) ∨
    (∃ i j, vx = .bool i ∧ vy = .bool j ∧ c = (i == j)) ∨ (vx = .none ∧ vy = .none ∧ c = true) := by
  cases x <;> first | exact noneSome h | (cases y <;> first | exact noneSome h | skip)
  · cases h; exact .inr (.inr (.inr ⟨hx, hy, rfl⟩))
  · cases h; exact .inr (.inr (.inl ⟨_, _, hx, hy, rfl⟩))
  · cases h; obtain ⟨t, e⟩ := hx; obtain ⟨u, e'⟩ := hy; exact .inl ⟨_, _, t, u, e, e', rfl⟩
  · cases h; obtain ⟨t, e⟩ := hx; obtain ⟨u, e'⟩ := hy; exact .inr (.inl ⟨_, _, t, u, e, e', rfl⟩)
theorem eq_sound (S : St prog w base frs os σ s) (hu : A.units + 64 < cLine) (hx : VR x vx) (hy : VR y vy) {Q : Bool → AH → Prop} (h : eqV x y σ Q) :
    wpAny (model prog w) A (compareOp .Eq vx vy) (QQ prog w base frs os fun v σ' => ∃ b, v = .bool b ∧ Q b σ') E s := by
  unfold eqV at h
  cases q : eqB x y with
  | none =>
    rw [q] at h
    obtain ⟨d, d', r1, r2, s1, s2, q⟩ := h
    obtain ⟨as, ra⟩ := rd_reads S r1 hx
    obtain ⟨bs, rb⟩ := rd_reads S r2 hy
    exact eq_dataH ra rb s1 s2 hu (S.same0 (x := .bool _) ⟨_, rfl, q⟩ rfl)
  | some c =>
    rw [q] at h
    rcases eqB_inv hx hy q with ⟨i, j, t, u, rfl, rfl, rfl⟩ | ⟨i, j, t, u, rfl, rfl, rfl⟩ | ⟨i, j, rfl, rfl, rfl⟩ | ⟨rfl, rfl, rfl⟩
    · exact PyProof.Rows.eq_int (S.same0 (x := .bool _) ⟨_, rfl, h⟩ (congrArg Value.bool (intBeq i j)))
    · exact PyProof.Rows.eq_str (S.same0 (x := .bool _) ⟨_, rfl, h⟩ (congrArg Value.bool (strMk_eq i j)))
    · exact PyProof.Rows.eq_bool (S.same0 (x := .bool _) ⟨_, rfl, h⟩ rfl)
    · exact EqNone.eq_none_none (S.same0 (x := .bool _) ⟨_, rfl, h⟩ rfl)
theorem ne_sound (S : St prog w base frs os σ s) (hu : A.units + 64 < cLine) (hx : VR x vx) (hy : VR y vy) {Q : Bool → AH → Prop} (h : eqV x y σ Q) :
    wpAny (model prog w) A (compareOp .NotEq vx vy) (QQ prog w base frs os fun v σ' => ∃ b, v = .bool (!b) ∧ Q b σ') E s := by
  unfold eqV at h
  cases q : eqB x y with
  | none =>
    rw [q] at h
    obtain ⟨d, d', r1, r2, s1, s2, q⟩ := h
    obtain ⟨as, ra⟩ := rd_reads S r1 hx
    obtain ⟨bs, rb⟩ := rd_reads S r2 hy
    exact ne_dataH ra rb s1 s2 hu (S.same0 (x := .bool _) ⟨_, rfl, q⟩ rfl)
  | some c =>
    rw [q] at h
    rcases eqB_inv hx hy q with ⟨i, j, t, u, rfl, rfl, rfl⟩ | ⟨i, j, t, u, rfl, rfl, rfl⟩ | ⟨i, j, rfl, rfl, rfl⟩ | ⟨rfl, rfl, rfl⟩
    · exact PyProof.Rows.ne_int (S.same0 (x := .bool _) ⟨_, rfl, h⟩ (congrArg (fun b => Value.bool (!b)) (intBeq i j)))
    · exact PyProof.Rows.ne_str (S.same0 (x := .bool _) ⟨_, rfl, h⟩ (congrArg (fun b => Value.bool (!b)) (strMk_eq i j)))
    · exact PyProof.Rows.ne_bool (S.same0 (x := .bool _) ⟨_, rfl, h⟩ rfl)
    · exact EqNone.ne_none_none (S.same0 (x := .bool _) ⟨_, rfl, h⟩ rfl)

theorem QQ.mono {Q Q' : VQ} {v : Value} {s' : Shared} (h : QQ prog w base frs os Q v s') (k : ∀ a σ', Q a σ' → Q' a σ') : QQ prog w base frs os Q' v s' :=
  let ⟨a, σ', h1, h2, h3⟩ := h; ⟨a, σ', h1, h2, k a σ' h3⟩

theorem VR.noneEq {x : AV} {v : Value} (h : VR x v) (hu : x ≠ .unb) : (v == .none) = decide (x = .none) := by
  cases x with
  | unb => exact absurd rfl hu
  | none => cases h; rfl
  | bool b => cases h; simp
  | int i => obtain ⟨t, rfl⟩ := h; simp
  | str i => obtain ⟨t, rfl⟩ := h; simp
  | byt i => obtain ⟨l, t, rfl, _⟩ := h; simp
  | ref i => cases h; simp

theorem strsAre_of : ∀ {xs : List AV} {ys : List (List Nat)} {vs : List Value}, strsOf xs = some ys → VRs xs vs → StrsAre vs (ys.map fun y => ⟨y.toArray⟩)
  | [], _, [], e, _ => by cases e; exact .nil
  | [], _, _ :: _, _, h => h.elim
  | .str s :: xs, ys, v :: vs, e, h => by
    simp only [strsOf, Option.map_eq_some_iff] at e
    obtain ⟨zs, e1, rfl⟩ := e
    obtain ⟨t, rfl⟩ := h.1
    exact .cons _ _ (strsAre_of e1 h.2)
  | .str s :: xs, _, [], _, h => h.elim
  | .unb :: _, _, _, e, _ => by cases e
  | .none :: _, _, _, e, _ => by cases e
  | .bool _ :: _, _, _, e, _ => by cases e
  | .int _ :: _, _, _, e, _ => by cases e
  | .byt _ :: _, _, _, e, _ => by cases e
  | .ref _ :: _, _, _, e, _ => by cases e

theorem anyMk (ys : List (List Nat)) (x : List Nat) : ((ys.map fun y => (⟨y.toArray⟩ : Str)).any (· == ⟨x.toArray⟩)) = ys.any (· == x) := by
  induction ys with
  | nil => rfl
  | cons y r ih => simp only [List.map_cons, List.any_cons, ih]; rw [strMk_eq]; congr 1; rw [Bool.eq_iff_iff]; simp

theorem DR.lookup : ∀ {l : List (List Nat × Int)} {r : List (Str × Value)} (x : List Nat), DR l r →
    (valueAt r ⟨x.toArray⟩).isSome = (l.lookup x).isSome ∧ ∀ n, l.lookup x = some n → ∃ t, valueAt r ⟨x.toArray⟩ = some (.int n t)
  | [], [], x, _ => ⟨rfl, fun n e => by cases e⟩
  | [], _ :: _, _, h => h.elim
  | _ :: _, [], _, h => h.elim
  | (k, n) :: l, (y, v) :: r, x, h => by
    obtain ⟨rfl, ⟨t, rfl⟩, h⟩ := h
    obtain ⟨i1, i2⟩ := DR.lookup x h
    unfold valueAt at i1 i2 ⊢
    rw [List.find?_cons]
    by_cases q : k = x
    · subst q
      simp only [decide_true, List.lookup_cons_self]
      exact ⟨rfl, fun m e => by cases e; exact ⟨t, rfl⟩⟩
    · have q1 : (Str.mk k.toArray = Str.mk x.toArray) = False := by
        refine eq_false fun e => q ?_
        simpa using congrArg (fun z => z.cps.toList) e
      have q2 : (x == k) = false := by rw [beq_eq_false_iff_ne]; exact fun e => q e.symm
      simp only [q1, decide_false, List.lookup_cons, q2]
      exact ⟨i1, i2⟩

theorem in_sound {p : List Nat} {t : Tok} (S : St prog w base frs os σ s) (hy : VR y vy) (h : inV p y σ Q) : wpAny (model prog w) A (compareOp .In (.str ⟨p.toArray⟩ t) vy) (QQ prog w base frs os Q) E s := by
  cases y <;> first | exact (show False from h).elim | skip
  · obtain ⟨u, rfl⟩ := hy; exact PyProof.Rows.in_str (S.same0 h rfl)
  · obtain ⟨o, e, h⟩ := h
    cases hy
    have ob := S.ob _ _ e
    cases o <;> first | exact (show False from h).elim | skip
    · obtain ⟨ys, h1, h2⟩ := h
      obtain ⟨_, ⟨vs, n, q1, q2⟩, _⟩ := ob
      exact PyProof.Rows.in_tuple_strs ⟨_, q1, rfl, n, rfl⟩ (strsAre_of h1 q2) (S.same0 h2 (congrArg Value.bool (anyMk _ _)))
    · obtain ⟨_, sm, kvs, q1, q2⟩ := ob
      exact wpAny_in_of (strKind_is prog w _ _) sm q1.mapOf (S.same _ h (congrArg Value.bool (DR.lookup p q2).1))
theorem cmp_sound (o : COp) (S : St prog w base frs os σ s) (hu : A.units + 64 < cLine) (hx : VR x vx) (hy : VR y vy) (h : cmpV o x y σ Q) :
    wpAny (model prog w) A (compareOp (cmpOf o) vx vy) (QQ prog w base frs os Q) E s := by
  cases o with
  | eq => exact wpAny_mono (eq_sound S hu hx hy (Q := fun b σ' => Q (.bool b) σ') h) (fun v s' q => q.mono fun a σ' ⟨b, e, q⟩ => by subst e; exact q) fun _ _ e => e
  | ne => exact wpAny_mono (ne_sound S hu hx hy (Q := fun b σ' => Q (.bool (!b)) σ') h) (fun v s' q => q.mono fun a σ' ⟨b, e, q⟩ => by subst e; exact q) fun _ _ e => e
  | is =>
    obtain ⟨h1, rfl, h2⟩ := h
    cases hy
    exact PyProof.Rows.is_none_gen (S.same0 h2 (congrArg Value.bool (hx.noneEq h1)))
  | isnot =>
    obtain ⟨h1, rfl, h2⟩ := h
    cases hy
    exact PyProof.Rows.isnot_none_gen (S.same0 h2 (congrArg (fun b => Value.bool (!b)) (hx.noneEq h1)))
  | lt => obtain ⟨i, j, t, u, rfl, rfl, h⟩ := ii.vr hx hy h; exact PyProof.Rows.lt_int (S.same0 h rfl)
  | le => obtain ⟨i, j, t, u, rfl, rfl, h⟩ := ii.vr hx hy h; exact PyProof.Rows.le_int (S.same0 h rfl)
  | gt => obtain ⟨i, j, t, u, rfl, rfl, h⟩ := ii.vr hx hy h; exact PyProof.Rows.gt_int (S.same0 h rfl)
  | ge => obtain ⟨i, j, t, u, rfl, rfl, h⟩ := ii.vr hx hy h; exact PyProof.Rows.ge_int (S.same0 h rfl)
  | isin =>
    obtain ⟨p, rfl, h⟩ := h
    obtain ⟨t, rfl⟩ := hx
    exact in_sound S hy h

set_option tactic.hygienic true in
theorem tru_sound (S : St prog w base frs os σ s) (hx : VR x vx) {Q : Bool → Prop} (h : truV x Q) {R : Bool → Shared → Prop} (k : ∀ b tk, Q b → St prog w base frs os σ { s with toks := tk } → R b { s with toks := tk }) :
    wpAny (model prog w) A (truthy vx) R E s := by
  cases x <;> first | exact (show False from h).elim | skip
  case bool b => cases hx; exact wpAny_truthy_bool (k b s.toks h S)
  case str c =>
    obtain ⟨t, rfl⟩ := hx
    refine P.truthy_str (by rw [strLen]; have := h.1; rw [big_is] at this; omega) ?_
    have e : ((Str.length ⟨c.toArray⟩ : Int) != 0) = !c.isEmpty := by rw [strLen]; cases c <;> simp <;> omega
    rw [e]; exact k _ _ h.2 (S.toks _)

theorem subscripted_plain (slice : PySem.Expr) (hs : (match slice with | .Slice .. => false | _ => true) = true) (o i : Value) : subscripted slice false o i = operate [o, i] (getItem o i) := by
  cases slice <;> first | rfl | cases hs

theorem ints_get : ∀ {vs : List Value} {ns : List Int} {k : Nat} {n : Int}, IntsAre vs ns → ns[k]? = some n → ∃ v, vs[k]? = some v ∧ ∃ t, v = .int n t
  | _, [], _, _, _, e => by simp at e
  | vs, m :: ns, k, n, h, e => by
    obtain ⟨t, vs', rfl, h'⟩ := h.cons_inv
    cases k with
    | zero => simp at e; subst e; exact ⟨_, rfl, t, rfl⟩
    | succ k => simp at e; simpa using ints_get h' e

theorem idx_seq {i : Int} {k n : Nat} (h : seqIndex? i n = some k) (hk : k < n) : (0 ≤ i ∧ k = i.toNat) ∨ (i < 0 ∧ -(n : Int) ≤ i ∧ k = (i + n).toNat) := by
  by_cases hi : 0 ≤ i
  · refine .inl ⟨hi, ?_⟩
    by_cases q : (n : Int) ≤ i
    · rw [MeetsSeq.seqIndex_none_hi q] at h; cases h
    · unfold seqIndex? at h; simp at h; omega
  · refine .inr ?_
    by_cases q : i + n < 0
    · rw [MeetsSeq.seqIndex_none_lo q] at h; cases h
    · rw [MeetsSeq.seqIndex_neg (by omega) (by omega)] at h
      cases h
      exact ⟨by omega, by omega, rfl⟩
theorem Small.noBig {i : Int} (h : Small i) : (decide (i < -(2 ^ 63)) || decide (i ≥ 2 ^ 63)) = false := by
  have e1 : ¬ i < -(2 ^ 63 : Int) := Int.not_lt.mpr h.1
  have e2 : ¬ i ≥ 2 ^ 63 := Int.not_le.mpr h.2
  rw [decide_eq_false e1, decide_eq_false e2]; rfl
theorem idxO_sound {o : AO} {a : Nat} {value slice : PySem.Expr} (S : St prog w base frs os σ s) (hs : (match slice with | .Slice .. => false | _ => true) = true) (e : σ a = some o) (hy : VR y vy) (h : idxO o y σ Q) :
    wpAny (model prog w) A (subscriptTail value slice (.ref a) vy) (QQ prog w base frs os Q) E s := by
  have sp := subscripted_plain slice hs (.ref a) vy
  have ob := S.ob _ _ e
  cases o <;> first | exact (show False from h).elim | skip
  · obtain ⟨i, k, z, rfl, hi, h3, h4, h5⟩ := h
    obtain ⟨_, ⟨vs, n, q1, q2⟩, _⟩ := ob
    obtain ⟨u, rfl⟩ := hy
    obtain ⟨v, h6, h7⟩ := q2.get h4
    have hl : xs.length = vs.size := q2.length.trans Array.length_toList
    rw [Array.getElem?_toList] at h6
    refine tail_any (T := "list") ⟨_, q1, rfl⟩ F.slot_list_getitem.lookup ?_ sp
    rcases idx_seq h3 (List.getElem?_eq_some_iff.mp h4).1 with ⟨g1, rfl⟩ | ⟨g1, g2, rfl⟩
    · exact wpAny_getItem_list q1.isList g1 hi.2 h6 (S.same0 h5 h7)
    · exact wpAny_getItem_list_neg q1.isList g1 (by rw [← hl]; exact g2) hi.1 (by rw [← hl]; exact h6) (S.same0 h5 h7)
  · obtain ⟨i, k, z, rfl, hi, h3, h4, h5⟩ := h
    obtain ⟨_, ⟨vs, n, q1, q2⟩, _⟩ := ob
    obtain ⟨u, rfl⟩ := hy
    obtain ⟨v, h6, h7⟩ := q2.get h4
    refine tail_any (T := "tuple") ⟨_, q1, rfl⟩ F.slot_tuple_getitem.lookup (P.getItem_tuple q1 hi.1 hi.2 (k := k) (y := v) ?_ ?_ (S.same0 h5 h7)) sp
    · rw [← Array.length_toList, ← q2.length]; exact h3
    · rw [← Array.getElem?_toList]; exact h6
  · obtain ⟨x, n, rfl, h1, h2⟩ := h
    obtain ⟨_, sm, kvs, q1, q2⟩ := ob
    obtain ⟨u, rfl⟩ := hy
    obtain ⟨t, h3⟩ := (DR.lookup x q2).2 n h1
    exact tail_any q1.typeIs slot_dict_getitem.lookup (wpAny_getItem_of (strKind_is prog w _ _) q1.mapOf h3 (S.same _ h2 ⟨_, rfl⟩)) sp
  · obtain ⟨i, n, rfl, hi, h3, h4, h5⟩ := h
    obtain ⟨_, vs, q1, q2⟩ := ob
    obtain ⟨u, rfl⟩ := hy
    obtain ⟨v, h6, t, rfl⟩ := ints_get q2 h4
    exact tail_any (T := "list") q1.typeIs F.slot_list_getitem.lookup (wpAny_getItem_list q1 h3 hi.2 (List.getElem?_toArray.trans h6) (S.same0 h5 ⟨t, rfl⟩)) sp
theorem idx_sound {value slice : PySem.Expr} (S : St prog w base frs os σ s) (hs : (match slice with | .Slice .. => false | _ => true) = true) (hx : VR x vx) (hy : VR y vy) (h : idxV x y σ Q) :
    wpAny (model prog w) A (subscriptTail value slice vx vy) (QQ prog w base frs os Q) E s := by
  have sp := subscripted_plain slice hs vx vy
  cases x <;> first | exact (show False from h).elim | skip
  · obtain ⟨i, k, z, rfl, hi, h3, h4, h5⟩ := h
    obtain ⟨t, rfl⟩ := hx; obtain ⟨u, rfl⟩ := hy
    exact tail_any (typeIs_str _ _ _) F.slot_str_getitem.lookup (PyProof.Rows.getItem_str (c := z) hi.noBig (by rw [strLen, h3]; exact List.getElem?_toArray.trans h4) (S.same _ h5 ⟨_, rfl⟩)) sp
  · obtain ⟨i, z, rfl, h1, h2, h3, h4⟩ := h
    obtain ⟨l, t, rfl, rfl⟩ := hx; obtain ⟨u, rfl⟩ := hy
    rw [List.getElem?_map, Option.map_eq_some_iff] at h3
    obtain ⟨b, h3, rfl⟩ := h3
    have hl := (List.getElem?_eq_some_iff.mp h3).1
    rw [List.length_map] at h2
    have e : l.getD i.toNat 0 = b := by simp [List.getD, h3]
    refine tail_any (typeIs_bytes _ _ _) FB.slot_bytes_getitem.lookup (getItem_bytes (by omega) h1 (by omega) ?_) sp
    rw [e]
    exact S.same _ h4 ⟨_, rfl⟩
  · cases hx
    obtain ⟨o, e, h⟩ := h
    exact idxO_sound S hs e hy h

noncomputable def anm : Nat → String
  | 0 => "plus" | 1 => "minus" | 2 => "number" | 3 => "kind" | 4 => "text" | 5 => "value" | _ => "?"

noncomputable def partOf : AV → Value → Option (Option (Int × Tok))
  | .none, .none => some none
  | .int _, .int i t => some (some (i, t))
  | _, _ => none

theorem slcStr_sound {value : PySem.Expr} {lo hi : Option PySem.Expr} {p : Pos} {a : Addr} {c : List Nat} {t : Tok} {l u : Option (Int × Tok)}
    (S : St prog w base frs os σ s) (hsl : s.heap.IsSlice a l u none) (hc : c.length ≤ big) (h : Q (.str (cutS c (l.map (·.1)) (u.map (·.1)))) σ) :
    wpAny (model prog w) A (subscriptTail value (.Slice lo hi none p) (.str ⟨c.toArray⟩ t) (.ref a)) (QQ prog w base frs os Q) E s := by
  refine tail_any (ops := [.ref a, .str ⟨c.toArray⟩ t]) (typeIs_str _ _ _) F.slot_str_getitem.lookup ?_ rfl
  have sz : (Txt.slice ⟨c.toArray⟩ (l.map (·.1)) (u.map (·.1))).length ≤ sizeLine := Nat.le_trans (Txt.slice_le _ _ _) (by rw [strLen, sizeLine_eq]; exact hc)
  have vr : ∀ t', VR (.str (cutS c (l.map (·.1)) (u.map (·.1)))) (.str (Txt.slice ⟨c.toArray⟩ (l.map (·.1)) (u.map (·.1))) t') := fun t' => ⟨t', by simp [cutS]⟩
  have go : ∀ t' k, QQ prog w base frs os Q (.str (Txt.slice ⟨c.toArray⟩ (l.map (·.1)) (u.map (·.1))) t') { s with toks := k } := fun t' k => S.same k h (vr t')
  rcases l with _ | ⟨i, ti⟩ <;> rcases u with _ | ⟨j, tj⟩ <;> exact wpAny_getItem_str_slice (st := none) hsl rfl (post_val_or_str ⟨sz, go⟩)

theorem slcTup_sound {value : PySem.Expr} {lo hi : Option PySem.Expr} {p : Pos} {a t : Addr} {xs : List AV} {u : Tok}
    (S : St prog w base frs os σ s) (hsl : s.heap.IsSliceOf a .none (.int 2 u) .none) (hx : σ t = some (.tup xs)) (h3 : xs.length = 3) (h : newO σ (.tup (xs.take 2)) Q) :
    wpAny (model prog w) A (subscriptTail value (.Slice lo hi none p) (.ref t) (.ref a)) (QQ prog w base frs os Q) E s := by
  obtain ⟨_, ⟨vs, n, q1, q2⟩, _⟩ := S.ob _ _ hx
  have hl : vs.size = 3 := by rw [← Array.length_toList, ← q2.length]; exact h3
  have ht : IsTup s.heap t vs := ⟨_, q1, rfl, n, rfl⟩
  refine tail_any (ops := [.ref a, .ref t]) ht.typeIs F.slot_tuple_getitem.lookup ?_ rfl
  obtain ⟨os', hos, hcs, hds⟩ := id hsl
  have hTs : s.TypeIs (.ref a) "slice" := ⟨os', hos, hcs⟩
  unfold getItem
  try with_reducible refine wpAny_holding ?_
  first | refine wpAny_bind (wpAny_pure ?_) | skip
  refine wpAny_bind (wpAny_sequenceKey ht.typeIs (by decide) ?_)
  refine wpAny_bind (wpAny_callSpecial?_slot (name := Str.ofString "__getitem__") ht.typeIs slot_tuple_getitem
    (wpAny_call_entry slot_tuple_getitem ht.typeIs entry_tuple_getitem ?_ (args_tuple_getitem _ _)))
  show wpAny _ _ (Builtin.Tuple.tupleItemsOf (.ref t) >>= _) _ _ s
  refine wpAny_bind (tupleItemsOf_ ht ?_)
  refine wpAny_bind (wpAny_typeOf hTs ?_)
  rw [if_pos (by decide)]
  have applied : ∀ {R : Int × Int × Nat → Shared → Prop}, R (0, 1, 2) s → wpAny (model prog w) A.in1 (Builtin.Slice.sliceApplied (.ref a) (pure ((vs.size : Nat) : Int))) R E s := fun {R} hR => by
    unfold Builtin.Slice.sliceApplied Builtin.Slice.sliceFields
    refine wpAny_bind (wpAny_bind (wpAny_field hos hds (x := .none) rfl (wpAny_bind (wpAny_field hos hds (x := .int 2 u) rfl (wpAny_bind (wpAny_field hos hds (x := .none) rfl (wpAny_pure ?_)))))))
    refine wpAny_bind (slicePart_none ?_)
    show wpAny _ _ (if ((1 : Int) == 0) = true then _ else _) _ _ s
    rw [if_neg (by decide)]
    refine wpAny_bind (slicePart_none (wpAny_bind (slicePart_int (wpAny_bind (wpAny_pure ?_)))))
    show wpAny _ _ (match Builtin.Slice.sliceAdjust none (some (2 : Int)) 1 ((vs.size : Nat) : Int) with | (lo, hi) => pure (lo, (1 : Int), Builtin.Slice.slicePlaces lo hi 1)) _ _ s
    rw [hl]
    exact wpAny_pure hR
  refine wpAny_bind (applied ?_)
  show wpAny _ _ (if ((0 : Int) == 0 && (1 : Int) == 1 && 2 == vs.size) = true then _ else _) _ _ s
  rw [if_neg (by rw [hl]; decide)]
  have e : ((List.range 2).filterMap fun (k : Nat) => vs[((0 : Int) + (k : Int) * 1).toNat]?).toArray = (vs.toList.take 2).toArray := by
    obtain ⟨l⟩ := vs
    cases l with
    | nil => cases hl
    | cons x l => cases l with
      | nil => cases hl
      | cons y l => rfl
  have e2 : (vs.toList.take 2).toArray.size ≤ sizeLine := by
    rw [List.size_toArray, List.length_take, sizeLine_eq]; omega
  have fin := S.newTup (k := s.toks) (vs := (vs.toList.take 2).toArray) (by simpa using q2.take 2) h
  rw [e]
  first
    | exact wpAny_bind (m := Builtin.Tuple.tupleExact _) (wpAny_newObj_type (wpAny_pure ⟨_, rfl, wpAny_pure fin⟩) e2)
    | exact wpAny_bind (m := Builtin.Tuple.tupleExact _) (wpAny_newObj_type (wpAny_bind (wpAny_pure (wpAny_pure ⟨_, rfl, wpAny_pure fin⟩))) e2)
    | exact wpAny_bind (wpAny_bind (m := Builtin.Tuple.tupleExact _) (wpAny_newObj_type (wpAny_pure (wpAny_pure ⟨_, rfl, wpAny_pure fin⟩)) e2))
    | exact wpAny_bind (wpAny_bind (m := Builtin.Tuple.tupleExact _) (wpAny_newObj_type (wpAny_pure ⟨_, rfl, wpAny_pure fin⟩) e2))

end Nm
end

section
open PySem PySem.W PySem.Calls PyProof.Rows
set_option tactic.hygienic false
set_option maxRecDepth 100000
set_option maxHeartbeats 4000000
namespace Nm
namespace BA
theorem no_bytes : typeLookup (.type "bytearray") "__bytes__" = pure none := by rw [typeLookup_type, builtinLookup_eq_fast]; kernel_rfl
theorem noIndex : typeLookup (.type "bytearray") "__index__" = pure none := by rw [typeLookup_type, builtinLookup_eq_fast]; kernel_rfl
theorem buffer : typeLookup (.type "bytearray") "__buffer__" = pure (some (.builtin "bytearray.__buffer__")) := by rw [typeLookup_type, builtinLookup_eq_fast]; kernel_rfl
theorem release : typeLookup (.type "bytearray") "__release_buffer__" = pure (some (.builtin "bytearray.__release_buffer__")) := by rw [typeLookup_type, builtinLookup_eq_fast]; kernel_rfl
theorem sub : isSubtype (.type "bytearray") (.type "bytearray") = pure true := by rw [isSubtype_type]; kernel_rfl
theorem ends1 : ("bytearray.__buffer__".endsWith ("." ++ "__buffer__")) = true := by decide +kernel
theorem ends2 : ("bytearray.__release_buffer__".endsWith ("." ++ "__release_buffer__")) = true := by decide +kernel
end BA
section
variable {prog : Program} {w : World} {A : Around} {E : Value → Shared → Prop} {s : Shared}

theorem slotOwn {a : Addr} {name id : String} {M : Model} {Q : Bool → Shared → Prop} (hT : s.TypeIs (.ref a) "bytearray") (hl : typeLookup (.type "bytearray") (name : Str) = pure (some (.builtin id))) (he : id.endsWith ("." ++ name) = true) (hd : (id.dropRight (name.length + 1)) = "bytearray") (h : Q true s) :
    wpAny M A (Builtin.Bytes.slotIsOwn (.ref a) name) Q E s := by
  unfold Builtin.Bytes.slotIsOwn
  refine wpAny_bind (wpAny_specialOf hT hl ?_)
  dsimp only
  refine PySem.bm_if_false (by rw [he]; rfl) ?_
  first
    | (rw [hd]; exact wpAny_isInstance hT BA.sub h)
    | (refine wpAny_bind (wpAny_pure ?_); rw [hd]; exact wpAny_isInstance hT BA.sub h)

theorem barr_bytes {a : Addr} {l : List UInt8} (h1 : s.heap.get? a = some { cls := .type "bytearray", data := .bytearray l.toArray 0 }) (hl : l.length ≤ 1000)
    {R : Value → Shared → Prop} (h : ∀ t k, R (.bytes l.toArray t) { s with toks := k }) : wpAny (model prog w) A (call (.type "bytes") [.ref a]) R E s := by
  have hT : s.TypeIs (.ref a) "bytearray" := ⟨_, h1, rfl⟩
  refine callType_codes (Q₁ := fun obj s₁ => s₁.TypeIs obj "bytes" ∧ R obj s₁) PySem.F.bm_called (PySem.F.bm_typeCall _) F.entry_object_init ?_ fun obj s₁ h₁ => ?_
  rotate_left
  · exact ⟨h₁.1, F.args_object_init_2 obj _, object_init_meets PySem.F.bm_called.init.lookup PySem.F.bm_called.made (by decide) prog w A.in1 _ s₁ ⟨h₁.1, rfl, h₁.2⟩⟩
  refine codeAny_of_tree ?_
  show wpAny _ A.in1.in1 (do checkBuiltinCall "bytes.__new__" ⟨[.type "bytes", .ref a], []⟩; again (.builtin "bytes.__new__" ⟨[.type "bytes", .ref a], []⟩)) _ _ s
  refine wpAny_bind (wpAny_of_eq (PySem.F.bm_newCall _) (wpAny_pure ⟨plainId_quiet PySem.F.bm_plain _, codeAny_builtin PySem.F.bm_entry ?_⟩))
  rw [Around.under_plainId PySem.F.bm_plain _]
  unfold Builtin.«bytes.__new__»
  refine wpAny_bind (wpAny_of_eq (a := true) rfl ?_)
  refine bm_if_false rfl ?_
  refine wpAny_bind (wpAny_of_eq PySem.F.bm_sub ?_)
  refine bm_if_false rfl ?_
  refine wpAny_bind (wpAny_of_eq (PySem.F.bm_bind _) ?_)
  refine wpAny_bind (wpAny_of_eq (a := ()) rfl ?_)
  refine wpAny_bind (wpAny_of_eq (a := ()) rfl ?_)
  refine bm_if_false rfl ?_
  refine wpAny_bind (wpAny_specialOf hT BA.no_bytes ?_)
  refine wpAny_bind (wpAny_bind ?_)
  show wpAny _ _ (load a >>= _) _ _ _
  refine wpAny_bind (wpAny_load h1 ?_)
  refine wpAny_pure (wpAny_pure ?_)
  refine bm_if_false rfl ?_
  refine wpAny_bind (wpAny_specialOf hT BA.noIndex ?_)
  refine bm_if_true rfl ?_
  first
    | show wpAny _ _ (Builtin.Bytes.buffer? "bytes.__new__" (.ref a) true >>= _) _ _ _
    | (refine wpAny_bind ?_; show wpAny _ _ (Builtin.Bytes.buffer? "bytes.__new__" (.ref a) true >>= _) _ _ _)
  refine wpAny_bind ?_
  unfold Builtin.Bytes.buffer?
  refine wpAny_bind (wpAny_specialOf hT BA.buffer ?_)
  dsimp only
  refine wpAny_bind (slotOwn hT BA.buffer BA.ends1 (by decide +kernel) ?_)
  refine bm_if_false rfl ?_
  refine wpAny_bind (wpAny_specialOf hT BA.buffer ?_)
  try dsimp only
  refine wpAny_bind ?_
  unfold Builtin.Bytes.ownRelease
  refine wpAny_bind (slotOwn hT BA.release BA.ends2 (by decide +kernel) (wpAny_pure ?_))
  refine bm_if_false rfl ?_
  refine wpAny_bind ?_
  unfold Builtin.Bytes.payload Builtin.Bytes.payload?
  refine wpAny_bind (wpAny_bind (wpAny_load h1 (wpAny_pure ?_)))
  refine wpAny_pure (wpAny_pure ?_)
  refine wpAny_bind (wpAny_rule ?_)
  refine wpAny_bind (wpAny_mkBytes ?_ (by rw [List.size_toArray, sizeLine_eq]; omega))
  first
    | exact wpAny_pure ⟨typeIs_bytes _ _ _, h _ _⟩
    | (show wpAny _ _ (if _ then _ else _) _ _ _; refine bm_if_true rfl ?_; exact wpAny_pure ⟨typeIs_bytes _ _ _, h _ _⟩)
end
end Nm
end

section
open PySem PySem.W PySem.Calls PyProof.Rows MeetsSeq
set_option tactic.hygienic false
set_option maxRecDepth 100000
namespace Nm

/-- what the written part of the top says of the two classes -/
structure KC (K : Frag) (C : Addr) (names : List Str) : Prop where
  plain : ∀ n, plainGet K C n = true
  hasD : hasDictIn K C = true
  miss : ∀ n ∈ names, findIn K (.ref C) n = some none

variable {prog : Program} {w : World} {base : Heap} {frs : Frs} {os : OsState} {σ : AH} {s : Shared} {A : Around} {E : Value → Shared → Prop} {x y z : AV} {vx vy vz : Value} {Q : VQ} {K : Frag}

theorem handed_of {x : AV} {v : Value} (h : VR x v) : handedIn v = true := by
  cases x with
  | unb => exact h.elim
  | none => cases h; rfl
  | bool b => cases h; rfl
  | int i => obtain ⟨t, rfl⟩ := h; rfl
  | str i => obtain ⟨t, rfl⟩ := h; rfl
  | byt i => obtain ⟨l, t, rfl, _⟩ := h; rfl
  | ref i => cases h; rfl

theorem fieldOf {C a d : Addr} {es : List DictEntry} {k : Nat} {names : List Str} {n : Str} {v : Value} (X : K.In s.heap) (F : KC K C names) (hn : n ∈ names) (h1 : s.heap.get? a = some (instObj C d)) (h2 : s.heap.get? d = some (dictOf es k))
    (hl : getL n es = some (some v)) (hv : handedIn v = true) {R : Value → Shared → Prop} (h : R v { s with toks := s.toks + 1 }) : wpAny (model prog w) A (getAttr (.ref a) n true) R E s :=
  get_value X (I := ⟨h1, rfl, rfl, h2⟩) (plainGet_of (F.plain n)).1 (findObj_own (od := dictOf es k) F.hasD (F.miss n hn) rfl hl) hv h

noncomputable def sumNames : List Str := ["plus", "minus", "number"]
noncomputable def pieceNames : List Str := ["kind", "text", "value"]

theorem attr_sound (k : Nat) (S : St prog w base frs os σ s) (X : K.In base) (F1 : KC K cSUM sumNames) (F2 : KC K cPIECE pieceNames) (hx : VR x vx) (h : attrV x k σ Q) :
    wpAny (model prog w) A (getAttr vx (anm k) true) (QQ prog w base frs os Q) E s := by
  have X' := X.keeps S.stays
  obtain ⟨a, o, u, rfl, e, hp, hq⟩ := h
  cases hx
  have ob := S.ob _ _ e
  cases o <;> first | (cases hp; done) | skip
  · obtain ⟨_, d, es, k', q1, q2, _, ⟨v, e1, r1⟩, ⟨v2, e2, r2⟩, ⟨v3, e3, r3⟩, _⟩ := ob
    cases k with
    | zero => cases hp; exact fieldOf X' F1 (.head _) q1 q2 e1 (handed_of r1) (S.same _ hq r1)
    | succ k => cases k with
      | zero => cases hp; exact fieldOf X' F1 (.tail _ (.head _)) q1 q2 e2 (handed_of r2) (S.same _ hq r2)
      | succ k => cases k with
        | zero => cases hp; exact fieldOf X' F1 (.tail _ (.tail _ (.head _))) q1 q2 e3 (handed_of r3) (S.same _ hq r3)
        | succ k => cases hp
  · obtain ⟨_, d, es, k', q1, q2, _, ⟨v, e1, r1⟩, ⟨v2, e2, r2⟩, ⟨v3, e3, r3⟩⟩ := ob
    cases k with
    | zero => cases hp
    | succ k => cases k with
      | zero => cases hp
      | succ k => cases k with
        | zero => cases hp
        | succ k => cases k with
          | zero => cases hp; exact fieldOf X' F2 (.head _) q1 q2 e1 (handed_of r1) (S.same _ hq r1)
          | succ k => cases k with
            | zero => cases hp; exact fieldOf X' F2 (.tail _ (.head _)) q1 q2 e2 (handed_of r2) (S.same _ hq r2)
            | succ k => cases k with
              | zero => cases hp; exact fieldOf X' F2 (.tail _ (.tail _ (.head _))) q1 q2 e3 (handed_of r3) (S.same _ hq r3)
              | succ k => cases hp

noncomputable def b1nm : B1 → Str
  | .len => "len" | .abs => "abs" | .chr => "chr" | .ord => "ord" | .bytes => "bytes"
noncomputable def b1val : B1 → Value
  | .len => .builtin "len" | .abs => .builtin "abs" | .chr => .builtin "chr" | .ord => .builtin "ord" | .bytes => .type "bytes"

theorem len_sound {n : Nat} (S : St prog w base frs os σ s) (hx : VR x vx) (h : lenV x σ n) (hb : n ≤ big) (hq : Q (.int n) σ) : wpAny (model prog w) A (call (.builtin "len") [vx]) (QQ prog w base frs os Q) E s := by
  have b1 : (n : Int) < 2 ^ 63 := Int.lt_of_le_of_lt (Int.ofNat_le.mpr hb) (by decide)
  have b2 : n ≤ 1099511627776 := Nat.le_trans hb (by decide)
  cases x <;> first | exact (show False from h).elim | skip
  · obtain ⟨t, rfl⟩ := hx
    obtain rfl := h
    exact SBL.len (by rw [strLen]; exact b1) (S.same _ (x := .int _) hq ⟨_, by rw [strLen]⟩)
  · obtain ⟨l, t, rfl, rfl⟩ := hx
    obtain rfl := h
    rw [List.length_map] at b2 hq
    exact len_bytes (by rw [List.size_toArray]; exact b2) (S.same _ (x := .int _) hq ⟨s.toks + 1, by rw [List.size_toArray]⟩)
  · cases hx
    obtain ⟨o, e, hl⟩ := h
    have ob := S.ob _ _ e
    cases o <;> first | (cases hl; done) | skip
    · cases hl
      obtain ⟨_, ⟨vs, n, q1, q2⟩, _⟩ := ob
      have hl : xs.length = vs.size := q2.length.trans Array.length_toList
      exact PyProof.Rows.len_list q1.isList (by rw [← hl]; exact b1) (S.same _ (x := .int _) hq ⟨_, by rw [hl]⟩)
    · cases hl
      obtain ⟨_, ⟨vs, n, q1, q2⟩, _⟩ := ob
      have hl : xs.length = vs.size := q2.length.trans Array.length_toList
      exact P.len_tuple q1 (by rw [← hl]; exact Int.not_le.mpr b1) (S.same _ (x := .int _) hq ⟨_, by rw [hl]⟩)
    · cases hl
      obtain ⟨_, vs, q1, q2⟩ := ob
      exact PyProof.Rows.len_list q1 (by rw [List.size_toArray, q2.length]; exact b1) (S.same _ (x := .int _) hq ⟨s.toks + 1, by rw [List.size_toArray, q2.length]⟩)
theorem b1_sound (f : B1) (hh : A.handled = none) (S : St prog w base frs os σ s) (hx : VR x vx) (h : b1V f x σ Q) : wpAny (model prog w) A (call (b1val f) [vx]) (QQ prog w base frs os Q) E s := by
  cases f with
  | len => obtain ⟨n, h1, h2, h3⟩ := h; exact len_sound S hx h1 h2 h3
  | abs => obtain ⟨i, rfl, h⟩ := h; obtain ⟨t, rfl⟩ := hx; exact call_abs_int fun u tk => S.same _ (x := .int _) h ⟨_, rfl⟩
  | chr => obtain ⟨i, rfl, h⟩ := h; obtain ⟨t, rfl⟩ := hx; exact chr_of_range h.1 h.2.1 (S.same _ (x := .str _) h.2.2 ⟨_, rfl⟩)
  | ord => obtain ⟨c, rfl, h⟩ := h; obtain ⟨t, rfl⟩ := hx; exact ord_of_one rfl (S.same _ (x := .int _) h ⟨_, rfl⟩)
  | bytes =>
    obtain ⟨a, b, rfl, e, h1, h2⟩ := h
    cases hx
    obtain ⟨_, ⟨l, q1, rfl⟩, _⟩ := S.ob _ _ e
    exact barr_bytes q1 (by rwa [List.length_map] at h1) fun t k => S.same k (x := .byt _) h2 ⟨l, t, rfl, rfl⟩

noncomputable def m0nm : M0 → Str
  | .lower => "lower" | .isdigit => "isdigit" | .pop => "pop"
noncomputable def m0id : M0 → String
  | .lower => "str.lower" | .isdigit => "str.isdigit" | .pop => "list.pop"

set_option tactic.hygienic true in
theorem m0_sound {pl : Sem Bool} (f : M0) (S : St prog w base frs os σ s) (hx : VR x vx) (h : m0V f x σ Q) :
    wpAny (model prog w) A (getMethod vx (m0nm f) pl) (fun fx s₁ => fx = (.builtin (m0id f), [vx]) ∧ wpAny (model prog w) A (call (.builtin (m0id f)) [vx]) (QQ prog w base frs os Q) E s₁) E s := by
  cases f
  case lower =>
    obtain ⟨c, rfl, h1, h2, h3⟩ := h
    obtain ⟨t, rfl⟩ := hx
    refine GM.lower ⟨rfl, SCL.lower (by rw [strLen]; omega) fun _ => S.same _ (x := .str _) h3 ⟨s.toks, ?_⟩⟩
    rw [lower_ascii (by simpa using h2)]; simp
  case isdigit => obtain ⟨c, rfl, h⟩ := h; obtain ⟨t, rfl⟩ := hx; exact GM.isdigit ⟨rfl, SC.isdigit (S.same0 (x := .bool _) h rfl)⟩
  case pop =>
    obtain ⟨a, xs, z, rfl, e, h1, h2⟩ := h
    cases hx
    obtain ⟨hf, ⟨vs, n, q1, q2⟩, hb⟩ := S.ob _ _ e
    obtain ⟨us, v, e1, e2, e3⟩ := q2.init
    have ev : vs = (us ++ [v]).toArray := by apply Array.toList_inj.mp; rw [e1]
    subst ev
    have hl : us.length = xs.length := e2.length.symm
    rw [big_is] at h1
    have q : s.TypeIs (.ref a) "list" := ⟨_, q1, rfl⟩
    refine getMethod_builtin q F.plainAttrs_list F.slot_list_pop F.type_list_pop (fun b eb => by cases eb; exact ⟨_, q1, rfl⟩) ⟨rfl, ?_⟩
    refine call_meets F.slot_list_pop q F.entry_list_pop (F.args_list_pop_1 _) (list_pop_last a _ n v (by simp) (by rw [sizeLine_eq]; simp; omega)) ⟨q1, ?_⟩
    refine ⟨z, _, e3, S.turn (o := .list xs) _ s.toks (fun b ob nb eb => (Heap.get?_update_other _ _ (Ne.symm nb)).trans eb) hb hf (fun ob es m q => by rw [q1] at q; cases q; exact (fun x => nomatch x)) ⟨hf, ⟨us.toArray, n + 1, ?_, by simpa using e2⟩, hb⟩, h2⟩
    refine (Heap.get?_update_self _ q1 rfl).trans ?_
    have e5 : (us ++ [v]).eraseIdx us.length = us := by rw [List.eraseIdx_append_of_length_le (Nat.le_refl _)]; simp
    simp [Obj.mapSeq, Array.eraseIdxIfInBounds, e5]

noncomputable def m1nm : M1 → Str
  | .find => "find" | .append => "append" | .startswith => "startswith"
noncomputable def m1id : MK → String
  | .find => "str.find" | .startswith => "str.startswith" | .lapp => "list.append"

theorem m1_method {pl : Sem Bool} (f : M1) {k : MK} (S : St prog w base frs os σ s) (hx : VR x vx) (h : m1K f x σ k) {R : Value × List Value → Shared → Prop} (hR : R (.builtin (m1id k), [vx]) s) :
    wpAny (model prog w) A (getMethod vx (m1nm f) pl) R E s := by
  cases f with
  | find => obtain ⟨rfl, c, rfl⟩ := h; obtain ⟨t, rfl⟩ := hx; exact GM.find hR
  | startswith => obtain ⟨rfl, c, rfl⟩ := h; obtain ⟨t, rfl⟩ := hx; exact GM.startswith hR
  | append =>
    obtain ⟨rfl, a, xs, rfl, e⟩ := h
    cases hx
    obtain ⟨hf, ⟨vs, n, q1, q2⟩, hb⟩ := S.ob _ _ e
    exact getMethod_builtin ⟨_, q1, rfl⟩ F.plainAttrs_list F.slot_list_append F.type_list_append (fun b eb => by cases eb; exact ⟨_, q1, rfl⟩) hR

theorem m1_sound (k : MK) (S : St prog w base frs os σ s) (hx : VR x vx) (hy : VR y vy) (h : m1V k x y σ Q) : wpAny (model prog w) A (call (.builtin (m1id k)) [vx, vy]) (QQ prog w base frs os Q) E s := by
  cases k with
  | find => obtain ⟨a, b, rfl, rfl, h⟩ := h; obtain ⟨t, rfl⟩ := hx; obtain ⟨u, rfl⟩ := hy; exact SC.find (S.same _ (x := .int _) h ⟨_, rfl⟩)
  | startswith => obtain ⟨a, b, rfl, rfl, h⟩ := h; obtain ⟨t, rfl⟩ := hx; obtain ⟨u, rfl⟩ := hy; exact SC.startswith (S.same0 (x := .bool _) h rfl)
  | lapp =>
    obtain ⟨a, xs, rfl, _, e, h1, h2⟩ := h
    cases hx
    obtain ⟨hf, ⟨vs, n, q1, q2⟩, hb⟩ := S.ob _ _ e
    have hl : xs.length = vs.size := q2.length.trans Array.length_toList
    refine call_meets F.slot_list_append ⟨_, q1, rfl⟩ F.entry_list_append (F.args_list_append_2 _ _) (PySem.list_append a vs n vy (by rw [sizeLine_eq, ← hl]; exact Nat.le_of_lt h1)) ⟨q1, ?_⟩
    refine ⟨.none, _, rfl, S.turn (o := .list (xs ++ [y])) _ s.toks (fun b ob nb eb => (Heap.get?_update_other _ _ (Ne.symm nb)).trans eb) hb hf (fun ob es m q => by rw [q1] at q; cases q; exact (fun x => nomatch x)) ⟨hf, ⟨vs.push vy, n + 1, (Heap.get?_update_self _ q1 rfl).trans (by simp [Obj.mapSeq]), by rw [Array.toList_push]; exact q2.append (ys := [y]) (us := [vy]) ⟨hy, trivial⟩⟩, hb⟩, h2⟩
end Nm
end

section
open PySem PySem.W PySem.Calls PyProof.Rows
set_option tactic.hygienic false
set_option maxRecDepth 100000
namespace Nm

noncomputable def EnvsAre : List Env → Frs → Prop
  | [], [] => True
  | e :: es, p :: ps => e.frame = some p.1 ∧ e.scope.kind = .function ∧ EnvsAre es ps
  | _, _ => False

variable {prog : Program} {w : World} {base : Heap} {frs : Frs} {os : OsState} {σ : AH} {s : Shared} {A : Around} {E : Value → Shared → Prop} {M : Model}

theorem OR.keepX {fr : List Addr} {h h' : Heap} {a : Addr} {o : AO} (x : OR prog w base fr h a o) (hk : ∀ c ob, c ∉ fr → (∀ vs, ob.data ≠ .fields vs) → h.get? c = some ob → h'.get? c = some ob) : OR prog w base fr h' a o := by
  cases o with
  | list xs => obtain ⟨f, ⟨vs, n, q, r⟩, z⟩ := x; exact ⟨f, ⟨vs, n, hk _ _ f (fun _ e => nomatch e) q, r⟩, z⟩
  | tup xs => obtain ⟨f, ⟨vs, n, q, r⟩, z⟩ := x; exact ⟨f, ⟨vs, n, hk _ _ f (fun _ e => nomatch e) q, r⟩, z⟩
  | sum p m n => obtain ⟨f, d, es, k, q, q2, nf, r⟩ := x; exact ⟨f, d, es, k, hk _ _ f (fun _ e => nomatch e) q, hk _ _ nf (fun _ e => nomatch e) q2, nf, r⟩
  | piece p m n => obtain ⟨f, d, es, k, q, q2, nf, r⟩ := x; exact ⟨f, d, es, k, hk _ _ f (fun _ e => nomatch e) q, hk _ _ nf (fun _ e => nomatch e) q2, nf, r⟩
  | barr b => obtain ⟨f, ⟨l, q, r⟩, z⟩ := x; exact ⟨f, ⟨l, hk _ _ f (fun _ e => nomatch e) q, r⟩, z⟩
  | dict l => obtain ⟨f, sm, kvs, ⟨o, es, ep, q, r1, r2, r⟩, z⟩ := x; exact ⟨f, sm, kvs, ⟨o, es, ep, hk _ _ f (fun _ e => by rw [r2] at e; cases e) q, r1, r2, r⟩, z⟩
  | ro xs => obtain ⟨f, vs, ⟨o, q, r1, n, r2⟩, z⟩ := x; exact ⟨f, vs, ⟨o, hk _ _ f (fun _ e => by rw [r2] at e; cases e) q, r1, n, r2⟩, z⟩

/-- only records of faults and frames' slots turned -/
theorem St.slots (S : St prog w base frs os σ s) (h' : Heap) (k : Nat) (hk : ∀ b o, b ∉ frs.ad → (∀ vs, o.data ≠ .fields vs) → s.heap.get? b = some o → h'.get? b = some o)
    (hb : ∀ b o, base.get? b = some o → h'.get? b = some o) (hf : s.heap.UpToSlots h') : St prog w base frs os σ { s with heap := h', toks := k } :=
  ⟨hb, fun p hp => ⟨hf.ns (S.fr p hp).1, (S.fr p hp).2⟩, S.nd, fun a o e => (S.ob a o e).keepX hk, S.gens, S.os⟩

theorem EnvsAre.frames : ∀ {es : List Env} {frs : Frs}, EnvsAre es frs → es.filterMap (·.frame) = frs.ad
  | [], [], _ => rfl
  | [], _ :: _, h => h.elim
  | _ :: _, [], h => h.elim
  | e :: es, p :: ps, h => by
    rw [List.filterMap_cons, h.1, EnvsAre.frames h.2.2]; rfl

theorem EnvsAre.fun_ {B : Heap} {h : Heap} : ∀ {es : List Env} {frs : Frs}, EnvsAre es frs → (∀ p ∈ frs, B.get? p.1 = none ∧ ∃ o es ep, h.get? p.1 = some o ∧ o.data = .dict es ep) → h.FunFrames B es
  | [], [], _, _ => trivial
  | [], _ :: _, h, _ => h.elim
  | _ :: _, [], h, _ => h.elim
  | e :: es, p :: ps, h, k => by
    obtain ⟨k1, o, d, ep, k2, k3⟩ := k p (.head _)
    exact ⟨by rw [h.2.1]; decide, ⟨p.1, o, h.1, k1, k2, fun vs q => by rw [k3] at q; cases q⟩, EnvsAre.fun_ h.2.2 fun q hq => k q (.tail _ hq)⟩

/-- a fault that is noted -/
noncomputable def ExcAt (base h : Heap) (e : Addr) (fl : Value) : Prop := base.get? e = none ∧ ∃ a0, h.TracedAtW base e (.ref cAF) a0 fl
/-- a fault that is noted nowhere -/
noncomputable def ExcNew (base h : Heap) (e : Addr) : Prop := base.get? e = none ∧ ∃ oe vs a0, h.get? e = some oe ∧ oe.cls = .ref cAF ∧ oe.data = .fields vs ∧ vs[0]? = some a0 ∧ vs[1]? = some .none

theorem noted_of {L : Addr} {m : Str → Option Value} {X : List Addr} {e : Addr} {a0 : Value} {envs : List Env} (S : St prog w base ((L, m) :: frs) os σ s) (hen : base.get? e = none)
    (hX : ∀ b ∈ X, b ∈ Frs.ad ((L, m) :: frs) ∨ ∃ o vs, s.heap.get? b = some o ∧ o.data = .fields vs) (hXb : ∀ b ∈ X, base.get? b = none)
    {h' : Heap} (h : Heap.NotedW (hideAll s.heap X) envs e (.ref cAF) a0 (rawInt L) s.heap h') :
    St prog w base ((L, m) :: frs) os σ { s with heap := h' } ∧ ExcAt base h' e (rawInt L) := by
  obtain ⟨k1, k2, k3, k4⟩ := h
  have keep : ∀ b o, b ∉ X → s.heap.get? b = some o → h'.get? b = some o := fun b o hb ho => k1 b o (hideAll_get X ho hb)
  refine ⟨S.slots h' s.toks (fun b o hb hd ho => keep b o (fun hm => ?_) ho) (fun b o ho => keep b o (fun hm => by rw [hXb b hm] at ho; cases ho) (S.stays b o ho)) k4, hen, a0, ?_⟩
  · rcases hX b hm with q | ⟨o', vs, q1, q2⟩
    · exact hb q
    · rw [ho] at q1; cases q1; exact hd vs q2
  · obtain ⟨oe, vs, T, oT, ts, e1, e2, e3, e4, e5, e6, r⟩ := k3
    refine ⟨oe, vs, T, oT, ts, e1, e2, e3, e4, ?_, e6, r⟩
    cases q : base.get? T with
    | none => rfl
    | some o =>
      by_cases hm : T ∈ X
      · rw [hXb T hm] at q; cases q
      · rw [hideAll_get X (S.stays T o q) hm] at e5; cases e5

theorem note_new {L e : Addr} {m : Str → Option Value} {env : Env} {outer : List Env} {Q : Unit → Shared → Prop} (hfr : A.frames = some (env :: outer)) (EA : EnvsAre (env :: outer) ((L, m) :: frs)) (S : St prog w base ((L, m) :: frs) os σ s)
    (X : ExcNew base s.heap e) (hQ : ∀ s', St prog w base ((L, m) :: frs) os σ s' → ExcAt base s'.heap e (rawInt L) → Q () s') : wpAny M A (noteFrame (.ref e) env) Q E s := by
  obtain ⟨hen, oe, vs, a0, he, hc, hd, h0, h1⟩ := X
  have hl : s.heap.FunFrames (hideAll s.heap (e :: Frs.ad ((L, m) :: frs))) (env :: outer) := EA.fun_ fun p hp => by
    have hm : p.1 ∈ Frs.ad ((L, m) :: frs) := List.mem_map.mpr ⟨p, hp, rfl⟩
    obtain ⟨_, o, es, ep, q1, q2⟩ := S.frMem hm
    exact ⟨hideAll_none _ (.tail _ hm), o, es, ep, q1, q2⟩
  unfold noteFrame
  rw [EA.1]
  refine wpAny_bind (wpAny_field he hd h1 ?_)
  rw [if_neg (by decide)]
  refine wpAny_entryW (a0 := a0) hfr hl EA.1 he (fun b o q => of_hideAll _ q) (hideAll_none _ (.head _)) hd (Array.getElem?_eq_some_iff.mp h1).1 h0 fun h' hN => ?_
  rw [hc] at hN
  have n1 : ∀ b ∈ e :: Frs.ad ((L, m) :: frs), b ∈ Frs.ad ((L, m) :: frs) ∨ ∃ o vs, s.heap.get? b = some o ∧ o.data = .fields vs := fun b hb => by
    rcases List.mem_cons.mp hb with rfl | hb
    · exact .inr ⟨oe, vs, he, hd⟩
    · exact .inl hb
  have n2 : ∀ b ∈ e :: Frs.ad ((L, m) :: frs), base.get? b = none := fun b hb => by
    rcases List.mem_cons.mp hb with rfl | hb
    · exact hen
    · exact (S.frMem hb).1
  obtain ⟨S', X'⟩ := noted_of S hen n1 n2 hN
  exact hQ _ S' X'

theorem note_on {L e : Addr} {m : Str → Option Value} {env : Env} {outer : List Env} {Q : Unit → Shared → Prop} (hfr : A.frames = some (env :: outer)) (EA : EnvsAre (env :: outer) ((L, m) :: frs)) (S : St prog w base ((L, m) :: frs) os σ s)
    (X : ExcAt base s.heap e .none) (hQ : ∀ s', St prog w base ((L, m) :: frs) os σ s' → ExcAt base s'.heap e (rawInt L) → Q () s') : wpAny M A (noteFrame (.ref e) env) Q E s := by
  obtain ⟨hen, a0, oe, vs, T, oT, ts, he, hc, hd, h1, hT, hTe, hgT, hdT, h3⟩ := X
  have hl : s.heap.FunFrames (hideAll s.heap (e :: T :: Frs.ad ((L, m) :: frs))) (env :: outer) := EA.fun_ fun p hp => by
    have hm : p.1 ∈ Frs.ad ((L, m) :: frs) := List.mem_map.mpr ⟨p, hp, rfl⟩
    obtain ⟨_, o, es, ep, q1, q2⟩ := S.frMem hm
    exact ⟨hideAll_none _ (.tail _ (.tail _ hm)), o, es, ep, q1, q2⟩
  refine wpAny_noteFrame_onW (base := hideAll s.heap (e :: T :: Frs.ad ((L, m) :: frs))) (cls := .ref cAF) (a0 := a0) hfr hl EA.1 ⟨oe, vs, T, oT, ts, he, hc, hd, h1, hideAll_none _ (.tail _ (.head _)), hTe, hgT, hdT, h3⟩ (fun b o q => of_hideAll _ q) (hideAll_none _ (.head _)) fun h' hN => ?_
  have n1 : ∀ b ∈ e :: T :: Frs.ad ((L, m) :: frs), b ∈ Frs.ad ((L, m) :: frs) ∨ ∃ o vs, s.heap.get? b = some o ∧ o.data = .fields vs := fun b hb => by
    rcases List.mem_cons.mp hb with rfl | hb
    · exact .inr ⟨oe, vs, he, hd⟩
    · rcases List.mem_cons.mp hb with rfl | hb
      · exact .inr ⟨oT, ts, hgT, hdT⟩
      · exact .inl hb
  have n2 : ∀ b ∈ e :: T :: Frs.ad ((L, m) :: frs), base.get? b = none := fun b hb => by
    rcases List.mem_cons.mp hb with rfl | hb
    · exact hen
    · rcases List.mem_cons.mp hb with rfl | hb
      · exact hT
      · exact (S.frMem hb).1
  obtain ⟨S', X'⟩ := noted_of S hen n1 n2 hN
  exact hQ _ S' X'

theorem note_again {L e : Addr} {m : Str → Option Value} {env : Env} {outer : List Env} {Q : Unit → Shared → Prop} (EA : EnvsAre (env :: outer) ((L, m) :: frs)) (S : St prog w base ((L, m) :: frs) os σ s)
    (X : ExcAt base s.heap e (rawInt L)) (hQ : Q () s) : wpAny M A (noteFrame (.ref e) env) Q E s := by
  obtain ⟨hen, a0, oe, vs, T, oT, ts, he, hc, hd, h1, hT, hTe, hgT, hdT, h3⟩ := X
  exact wpAny_noteFrame_inFlight EA.1 he hd h1 hgT hdT h3 hQ

theorem flight {e : Addr} {fl : Value} {f : Option Addr} {Q : Unit → Shared → Prop} (S : St prog w base frs os σ s) (X : ExcAt base s.heap e fl)
    (hQ : ∀ s', St prog w base frs os σ s' → ExcAt base s'.heap e (f.elim .none fun f => rawInt f) → Q () s') : wpAny M A (setFlight (.ref e) f) Q E s := by
  obtain ⟨hen, a0, oe, vs, T, oT, ts, he, hc, hd, h1, hT, hTe, hgT, hdT, h3⟩ := X
  have hsz3 : 3 < ts.size := (Array.getElem?_eq_some_iff.mp h3).1
  have other : ∀ b, b ≠ T → (s.heap.update T (Obj.mapFields (·.setIfInBounds 3 (f.elim Value.none fun f => rawInt f)))).get? b = s.heap.get? b :=
    fun b hb => Heap.get?_update_other _ _ (Ne.symm hb)
  have noRecord : ∀ b o, s.heap.get? b = some o → (∀ vs, o.data ≠ .fields vs) → b ≠ T := fun b o hb hnf q => by
    rw [q, hgT] at hb; injection hb with hb; subst hb; exact hnf ts hdT
  unfold setFlight
  refine wpAny_bind (wpAny_field he hd h1 ?_)
  rw [if_pos (show (Value.ref T != Value.none) = true from by simp)]
  refine wpAny_setField hgT hdT hsz3 (hQ _ (S.slots _ s.toks (fun b o _ hd ho => (other b (noRecord b o ho hd)).trans ho) (fun b o hb => (other b fun q => by rw [q, hT] at hb; cases hb).trans (S.stays b o hb)) fun b o hb hnf => ⟨o.slots, (other b (noRecord b o hb hnf)).trans hb⟩) ⟨hen, a0, ?_⟩)
  exact ⟨oe, vs, T, _, _, (other e (Ne.symm hTe)).trans he, hc, hd, h1, hT, hTe, Heap.get?_update_self _ hgT (Obj.isFreed_of_fields (Obj.data_mapFields hdT _)), Obj.data_mapFields hdT _, by simp [hsz3]⟩

/-- a fault within a frame: new, or noted below, or noted here -/
noncomputable def XS (base h : Heap) (L e : Addr) : Prop := ExcNew base h e ∨ ExcAt base h e .none ∨ ExcAt base h e (rawInt L)

section
variable (prog : Program) (w : World) (base : Heap) (L : Addr) (frs : Frs) (os : OsState)
/-- the end by a fault, in the frame on top -/
noncomputable def XE (R : AH → Prop) : Value → Shared → Prop := fun x s' => ∃ e σ' m', x = .ref e ∧ St prog w base ((L, m') :: frs) os σ' s' ∧ XS base s'.heap L e ∧ R σ'
/-- the end by a fault of a call -/
noncomputable def XC (frs : Frs) (R : AH → Prop) : Value → Shared → Prop := fun x s' => ∃ e σ', x = .ref e ∧ St prog w base frs os σ' s' ∧ ExcAt base s'.heap e .none ∧ R σ'
end

theorem note_any {L e : Addr} {m : Str → Option Value} {env : Env} {outer : List Env} {Q : Unit → Shared → Prop} (hfr : A.frames = some (env :: outer)) (EA : EnvsAre (env :: outer) ((L, m) :: frs)) (S : St prog w base ((L, m) :: frs) os σ s)
    (X : XS base s.heap L e) (hQ : ∀ s', St prog w base ((L, m) :: frs) os σ s' → ExcAt base s'.heap e (rawInt L) → Q () s') : wpAny M A (noteFrame (.ref e) env) Q E s := by
  rcases X with X | X | X
  · exact note_new hfr EA S X hQ
  · exact note_on hfr EA S X hQ
  · exact note_again EA S X (hQ _ S X)

theorem EnvsAre.swap {env : Env} {outer : List Env} {L : Addr} {m m' : Str → Option Value} (EA : EnvsAre (env :: outer) ((L, m) :: frs)) : EnvsAre (env :: outer) ((L, m') :: frs) := EA

/-- a loop hands a fault on -/
theorem XE.passes {L : Addr} {m : Str → Option Value} {env : Env} {outer : List Env} {R : AH → Prop} (hfr : A.frames = some (env :: outer)) (EA : EnvsAre (env :: outer) ((L, m) :: frs)) {x : Value} (h : XE prog w base L frs os R x s) :
    notedBy M A env (cameBackBy M A env (XE prog w base L frs os R)) x s := by
  obtain ⟨e, σ', m', rfl, S, X, r⟩ := h
  refine note_any hfr (EA.swap (m' := m')) S X fun s' S' X' => ?_
  have X2 := X'
  obtain ⟨hen, a0, oe, vs, T, oT, ts, he, hc, hd, h1, _⟩ := X'
  refine wpAny_bind (wpAny_field he hd h1 ?_)
  rw [if_neg (show ¬ ((Value.ref T == Value.none) = true) from by simp)]
  first
    | refine wpAny_bind (wpAny_pure ?_)
    | skip
  rw [EA.1]
  exact flight S' X2 fun s'' S'' X'' => ⟨e, σ', m', rfl, S'', .inr (.inr X''), r⟩

/-- a fault leaves a frame -/
theorem XE.leaves {L : Addr} {m : Str → Option Value} {env : Env} {outer : List Env} {R : AH → Prop} {E' : Value → Shared → Prop} {x : Value} (hfr : A.frames = some (env :: outer)) (EA : EnvsAre (env :: outer) ((L, m) :: frs)) (h : XE prog w base L frs os R x s) :
    wpAny M A (leaving env x) (fun _ s'' => XC prog w base os frs R x s'') E' s := by
  obtain ⟨e, σ', m', rfl, S, X, r⟩ := h
  unfold leaving
  refine wpAny_bind (note_any hfr (EA.swap (m' := m')) S X fun s' S' X' => ?_)
  refine flight S' X' fun s'' S'' X'' => ⟨e, σ', rfl, ?_, X'', r⟩
  exact ⟨S''.stays, fun p hp => S''.fr p (.tail _ hp), (List.nodup_cons.mp S''.nd).2, fun a o q => (S''.ob a o q).frames fun b ob _ hb hm => hb (.tail _ hm), S''.gens, S''.os⟩
end Nm
end

section
open PySem PySem.W PySem.Calls PyProof.Rows
set_option tactic.hygienic false
set_option maxRecDepth 100000
set_option maxHeartbeats 1000000
set_option linter.unusedVariables false
namespace Nm

noncomputable def fnmL : List Str := ["is_number", "number_end", "number_value", "quoted", "pieces_of", "numbered", "worked_out", "cancelled", "reduced", "closed", "expression_of", "_law_ranks", "_law_draw", "_law_figures", "_law_leaf", "_law_tree", "_law_rank", "_law_written", "_law_added", "_law_reckoned", "_law_comes_to", "_law_read", "law", "escaped"]
noncomputable def faddrL : List Nat := [35, 93, 100, 114, 121, 128, 135, 142, 149, 156, 163, 170, 179, 186, 193, 200, 207, 214, 221, 228, 235, 242, 247, 107]
noncomputable def faddr (i : Nat) : Nat := faddrL.getD i 0
noncomputable def gnmL : List Str := ["NAME_BEGINS", "DIGITS", "NAME_SIGNS", "PARTS", "LEVELS", "_law_marks", "_law_ill"]
noncomputable def cnmL : List Str := ["Sum", "Piece"]

noncomputable def fnOk (f : Nat) (x : Str) : Bool := fnmL[f]? == some x && !(f == 0)
noncomputable def gl (sc : Scope) (x : Str) : Bool := sc.names.lookup x == some .globalImplicit && !(x == ("__debug__" : Str))


/-! parts of the model's trees -/
set_option genInjectivity false in
structure XV where
  t : Nat
  s : Str
  k : Nat
  kids : List PySem.Expr
  lo : Option PySem.Expr
  hi : Option PySem.Expr
  ks : List (Option PySem.Expr)
  sc : Scope
noncomputable def cStr : Const → Str | .str x => x | _ => ""
noncomputable def xv : PySem.Expr → XV
  | .Name x _ => ⟨1, x, 0, [], none, none, [], default⟩
  | .Slice a b _ _ => ⟨2, "", 0, [], a, b, [], default⟩
  | .Call f as _ _ => ⟨3, "", 0, f :: as, none, none, [], default⟩
  | .Starred _ _ => ⟨4, "", 0, [], none, none, [], default⟩
  | .ListComp el gs sc _ => ⟨5, "", 0, [el, (gs.headD default).target, (gs.headD default).iter], none, none, [], sc⟩
  | .SetComp _ _ _ _ => ⟨5, "", 0, [], none, none, [], default⟩
  | .DictComp _ _ _ _ _ => ⟨5, "", 0, [], none, none, [], default⟩
  | .BoolOp _ xs _ => ⟨6, "", 0, xs, none, none, [], default⟩
  | .Tuple es k _ => ⟨7, "", k, es, none, none, [], default⟩
  | .Attribute v n _ => ⟨0, n, 0, [v], none, none, [], default⟩
  | .Constant c k _ => ⟨0, cStr c, k, [], none, none, [], default⟩
  | .BinOp l _ r _ => ⟨0, "", 0, [l, r], none, none, [], default⟩
  | .UnaryOp _ x _ => ⟨0, "", 0, [x], none, none, [], default⟩
  | .IfExp a b c _ => ⟨0, "", 0, [a, b, c], none, none, [], default⟩
  | .Compare l _ rs _ => ⟨0, "", 0, l :: rs, none, none, [], default⟩
  | .Subscript v i _ => ⟨0, "", 0, [v, i], none, none, [], default⟩
  | .List es _ => ⟨0, "", 0, es, none, none, [], default⟩
  | .Dict ks vs _ => ⟨0, "", 0, vs, none, none, ks, default⟩
  | _ => ⟨0, "", 0, [], none, none, [], default⟩
noncomputable def tg (e : PySem.Expr) (n : Nat) : Bool := (xv e).t == n
noncomputable def notCall (e : PySem.Expr) : Bool := !tg e 3
noncomputable def isSl (e : PySem.Expr) : Bool := tg e 2
noncomputable def isNm (e : PySem.Expr) : Bool := tg e 1
noncomputable def eStr (e : PySem.Expr) : Str := (xv e).s
noncomputable def eK (e : PySem.Expr) : Nat := (xv e).k
noncomputable def kids (e : PySem.Expr) : List PySem.Expr := (xv e).kids
noncomputable def kid (e : PySem.Expr) (i : Nat) : PySem.Expr := (kids e).getD i (.Name "" default)
noncomputable def sLo (e : PySem.Expr) : Option PySem.Expr := (xv e).lo
noncomputable def sHi (e : PySem.Expr) : Option PySem.Expr := (xv e).hi
noncomputable def dKeys (e : PySem.Expr) : List (Option PySem.Expr) := (xv e).ks
noncomputable def isO (o : BoolOp) (p : Pos) : PySem.Expr → Bool | .BoolOp o' _ p' => decide (o' = o) && decide (p' = p) | _ => false
theorem isO_inv {o : BoolOp} {p : Pos} {e : PySem.Expr} (h : isO o p e = true) : e = .BoolOp o (kids e) p := by
  cases e <;> first | exact (Bool.false_ne_true h).elim | skip
  exact (Bool.and_eq_true_iff.mp h).1 |> of_decide_eq_true |> fun e => (Bool.and_eq_true_iff.mp h).2 |> of_decide_eq_true |> fun e' => e ▸ e' ▸ rfl
noncomputable def two2 (l : List PySem.Expr) : Bool := match l with | _ :: _ :: _ => true | _ => false
/-- the rest of a chain of ands -/
noncomputable def tlB (o : BoolOp) (e : PySem.Expr) : PySem.Expr := match (kids e).tail with | [y] => y | ys => .BoolOp o ys e.pos
noncomputable def one (l : List PySem.Expr) : Bool := match l with | [_] => true | _ => false
noncomputable def tlX (l : List PySem.Expr) (x : PySem.Expr) : List PySem.Expr := match one l with | true => [x] | false => kids x
noncomputable def tlO (o : BoolOp) (p : Pos) (l : List PySem.Expr) (x : PySem.Expr) : Bool := one l || (isO o p x && two2 (kids x))
noncomputable def grp (o : BoolOp) (p : Pos) (y : PySem.Expr) (r : List PySem.Expr) : PySem.Expr := match r with | [] => y | _ => .BoolOp o (y :: r) p
theorem tl_inv {o : BoolOp} {p : Pos} {l : List PySem.Expr} {x : PySem.Expr} (h : tlO o p l x = true) : ∃ y r, tlX l x = y :: r ∧ x = grp o p y r := by
  unfold tlO at h
  unfold tlX
  cases ho : one l with
  | true => exact ⟨x, [], rfl, rfl⟩
  | false =>
    rw [ho] at h
    obtain ⟨h1, h2⟩ := Bool.and_eq_true_iff.mp h
    have e := isO_inv h1
    cases hk : kids x with
    | nil => rw [hk] at h2; exact (Bool.false_ne_true h2).elim
    | cons y r => cases r with
      | nil => rw [hk] at h2; exact (Bool.false_ne_true h2).elim
      | cons z r => exact ⟨y, z :: r, rfl, e.trans (congrArg (PySem.Expr.BoolOp o · p) hk)⟩

inductive IntsR : List Int → List PySem.Expr → Prop where
  | nil : IntsR [] []
  | cons {i l k p r} : IntsR l r → IntsR (i :: l) (.Constant (.int i) k p :: r)
inductive PairsR : List (List Nat × Int) → List (Option PySem.Expr) → List PySem.Expr → Prop where
  | nil : PairsR [] [] []
  | cons {s i l k p k' p' r r'} : PairsR l r r' → PairsR ((s, i) :: l) (some (.Constant (.str ⟨s.toArray⟩) k p) :: r) (.Constant (.int i) k' p' :: r')
noncomputable def reInts : List Int → List PySem.Expr → List PySem.Expr
  | [], _ => []
  | i :: l, es => .Constant (.int i) (eK (es.headD (.Name "" default))) (es.headD (.Name "" default)).pos :: reInts l es.tail
noncomputable def oE (o : Option (Option PySem.Expr)) : PySem.Expr := (o.getD none).getD (.Name "" default)
noncomputable def reKs : List (List Nat × Int) → List (Option PySem.Expr) → List (Option PySem.Expr)
  | [], _ => []
  | p :: l, es => some (.Constant (.str ⟨p.1.toArray⟩) (eK (oE es.head?)) (oE es.head?).pos) :: reKs l es.tail
theorem reInts_ok : ∀ (l : List Int) (es : List PySem.Expr), IntsR l (reInts l es)
  | [], _ => .nil
  | _ :: l, es => .cons (reInts_ok l es.tail)
theorem rePairs_ok : ∀ (l : List (List Nat × Int)) (ks : List (Option PySem.Expr)) (es : List PySem.Expr), PairsR l (reKs l ks) (reInts (l.map (·.2)) es)
  | [], _, _ => .nil
  | (_, _) :: l, ks, es => .cons (rePairs_ok l ks.tail es.tail)


noncomputable def isNo : AE → Bool | .none => true | _ => false
theorem isNo_inv {a : AE} (h : isNo a = true) : a = .none := by cases a <;> first | rfl | exact (Bool.false_ne_true h).elim

/-- the model's tree that a tree of the own calculus stands for, its marks taken from a given tree -/
noncomputable def reE : AE → PySem.Expr → PySem.Expr
  | .loc _, e => .Name (eStr e) e.pos
  | .gv _, e => .Name (eStr e) e.pos
  | .int i, e => .Constant (.int i) (eK e) e.pos
  | .str s, e => .Constant (.str ⟨s.toArray⟩) (eK e) e.pos
  | .bool b, e => .Constant (.bool b) (eK e) e.pos
  | .none, e => .Constant .none (eK e) e.pos
  | .bin o a b, e => .BinOp (reE a (kid e 0)) (opOf o) (reE b (kid e 1)) e.pos
  | .neg a, e => .UnaryOp .USub (reE a (kid e 0)) e.pos
  | .not a, e => .UnaryOp .Not (reE a (kid e 0)) e.pos
  | .cmp o a b, e => .Compare (reE a (kid e 0)) [cmpOf o] [reE b (kid e 1)] e.pos
  | .chain a o b o' c, e => .Compare (reE a (kid e 0)) [cmpOf o, cmpOf o'] [reE b (kid e 1), reE c (kid e 2)] e.pos
  | .and a b, e => .BoolOp .And (reE a (kid e 0) :: tlX (kids e).tail (reE b (tlB .And e))) e.pos
  | .or a b, e => .BoolOp .Or (reE a (kid e 0) :: tlX (kids e).tail (reE b (tlB .Or e))) e.pos
  | .ife c a b, e => .IfExp (reE c (kid e 0)) (reE a (kid e 1)) (reE b (kid e 2)) e.pos
  | .attr a k, e => .Attribute (reE a (kid e 0)) (anm k) e.pos
  | .idx a b, e => .Subscript (reE a (kid e 0)) (reE b (kid e 1)) e.pos
  | .slc a l u, e => .Subscript (reE a (kid e 0)) (.Slice ((sLo (kid e 1)).map (reE l)) ((sHi (kid e 1)).map (reE u)) Option.none (kid e 1).pos) e.pos
  | .tup2 a b, e => .Tuple [reE a (kid e 0), reE b (kid e 1)] (eK e) e.pos
  | .tup3 a b c, e => .Tuple [reE a (kid e 0), reE b (kid e 1), reE c (kid e 2)] (eK e) e.pos
  | .tup4 a b c d, e => .Tuple [reE a (kid e 0), reE b (kid e 1), reE c (kid e 2), reE d (kid e 3)] (eK e) e.pos
  | .tupI l, e => .Tuple (reInts l (kids e)) (eK e) e.pos
  | .lst0, e => .List [] e.pos
  | .lst1 a, e => .List [reE a (kid e 0)] e.pos
  | .lst3 a b c, e => .List [reE a (kid e 0), reE b (kid e 1), reE c (kid e 2)] e.pos
  | .dictI l, e => .Dict (reKs l (dKeys e)) (reInts (l.map (·.2)) (kids e)) e.pos
  | .comp, e => .ListComp (.BinOp (.Name "number" (kid (kid e 0) 0).pos) .Mod (.Constant (.int 2147483647) (eK (kid (kid e 0) 1)) (kid (kid e 0) 1).pos) (kid e 0).pos)
        [⟨.Name "number" (kid e 1).pos, .Subscript (.Name "script" (kid (kid e 2) 0).pos) (.Slice Option.none (some (.Constant (.int 40) (eK ((sHi (kid (kid e 2) 1)).getD e)) ((sHi (kid (kid e 2) 1)).getD e).pos)) Option.none (kid (kid e 2) 1).pos) (kid e 2).pos, [], 0⟩] (xv e).sc e.pos
  | .call0 _, e => .Call (.Name (eStr (kid e 0)) (kid e 0).pos) [] [] e.pos
  | .call1 _ a, e => .Call (.Name (eStr (kid e 0)) (kid e 0).pos) [reE a (kid e 1)] [] e.pos
  | .call2 _ a b, e => .Call (.Name (eStr (kid e 0)) (kid e 0).pos) [reE a (kid e 1), reE b (kid e 2)] [] e.pos
  | .call3 _ a b c, e => .Call (.Name (eStr (kid e 0)) (kid e 0).pos) [reE a (kid e 1), reE b (kid e 2), reE c (kid e 3)] [] e.pos
  | .call4 _ a b c d, e => .Call (.Name (eStr (kid e 0)) (kid e 0).pos) [reE a (kid e 1), reE b (kid e 2), reE c (kid e 3), reE d (kid e 4)] [] e.pos
  | .mk _ a b c, e => .Call (.Name (eStr (kid e 0)) (kid e 0).pos) [reE a (kid e 1), reE b (kid e 2), reE c (kid e 3)] [] e.pos
  | .meth _ a, e => .Call (.Attribute (reE a (kid (kid e 0) 0)) "is_number" (kid e 0).pos) [] [] e.pos
  | .b1 f a, e => .Call (.Name (b1nm f) (kid e 0).pos) [reE a (kid e 1)] [] e.pos
  | .barr, e => .Call (.Name "bytearray" (kid e 0).pos) [] [] e.pos
  | .m0 f a, e => .Call (.Attribute (reE a (kid (kid e 0) 0)) (m0nm f) (kid e 0).pos) [] [] e.pos
  | .m1 f a b, e => .Call (.Attribute (reE a (kid (kid e 0) 0)) (m1nm f) (kid e 0).pos) [reE b (kid e 1)] [] e.pos

noncomputable def slOk (l : AE) (f : PySem.Expr → Bool) : Option PySem.Expr → Bool | none => isNo l | some x => f x
noncomputable def okE (sc : Scope) (vars : List Str) : AE → PySem.Expr → Bool
  | .loc i, e => vars[i]? == some (eStr e) && sc.names.lookup (eStr e) == some .local && !(eStr e == ("__debug__" : Str))
  | .gv g, e => gnmL[g]? == some (eStr e) && gl sc (eStr e)
  | .int _, _ => true
  | .str _, _ => true
  | .bool _, _ => true
  | .none, _ => true
  | .bin _ a b, e => okE sc vars a (kid e 0) && okE sc vars b (kid e 1)
  | .neg a, e => okE sc vars a (kid e 0)
  | .not a, e => okE sc vars a (kid e 0)
  | .cmp o a b, e => okE sc vars a (kid e 0) && okE sc vars b (kid e 1) && !behindInMarks (cmpOf o) (reE b (kid e 1))
  | .chain a _ b o' c, e => okE sc vars a (kid e 0) && okE sc vars b (kid e 1) && okE sc vars c (kid e 2) && !behindInMarks (cmpOf o') (reE c (kid e 2))
  | .and a b, e => okE sc vars a (kid e 0) && okE sc vars b (tlB .And e) && tlO .And e.pos (kids e).tail (reE b (tlB .And e))
  | .or a b, e => okE sc vars a (kid e 0) && okE sc vars b (tlB .Or e) && tlO .Or e.pos (kids e).tail (reE b (tlB .Or e))
  | .ife c a b, e => okE sc vars c (kid e 0) && okE sc vars a (kid e 1) && okE sc vars b (kid e 2)
  | .attr a _, e => isNm (reE a (kid e 0)) && okE sc vars a (kid e 0)
  | .idx a b, e => !isSl (reE b (kid e 1)) && okE sc vars a (kid e 0) && okE sc vars b (kid e 1)
  | .slc a l u, e => okE sc vars a (kid e 0) && slOk l (okE sc vars l) (sLo (kid e 1)) && slOk u (okE sc vars u) (sHi (kid e 1))
  | .tup2 a b, e => okE sc vars a (kid e 0) && okE sc vars b (kid e 1)
  | .tup3 a b c, e => okE sc vars a (kid e 0) && okE sc vars b (kid e 1) && okE sc vars c (kid e 2)
  | .tup4 a b c d, e => okE sc vars a (kid e 0) && okE sc vars b (kid e 1) && okE sc vars c (kid e 2) && okE sc vars d (kid e 3)
  | .tupI l, _ => decide (l.length ≤ 16)
  | .lst0, _ => true
  | .lst1 a, e => okE sc vars a (kid e 0)
  | .lst3 a b c, e => okE sc vars a (kid e 0) && okE sc vars b (kid e 1) && okE sc vars c (kid e 2)
  | .dictI l, _ => decide (0 < l.length) && decide (l.length ≤ 15) && decide ((l.map (·.1)).Nodup)
  | .comp, e => (xv e).sc.kind == .function && (xv e).sc.names == [((".0" : Str), .local), (("number" : Str), .local)] && !(xv e).sc.isGenerator && !(xv e).sc.isCoroutine && vars[0]? == some ("script" : Str) && sc.names.lookup ("script" : Str) == some .local
  | .call0 f, e => fnOk f (eStr (kid e 0)) && gl sc (eStr (kid e 0))
  | .call1 f a, e => fnOk f (eStr (kid e 0)) && gl sc (eStr (kid e 0)) && okE sc vars a (kid e 1)
  | .call2 f a b, e => fnOk f (eStr (kid e 0)) && gl sc (eStr (kid e 0)) && okE sc vars a (kid e 1) && okE sc vars b (kid e 2)
  | .call3 f a b c, e => fnOk f (eStr (kid e 0)) && gl sc (eStr (kid e 0)) && okE sc vars a (kid e 1) && okE sc vars b (kid e 2) && okE sc vars c (kid e 3)
  | .call4 f a b c d, e => fnOk f (eStr (kid e 0)) && gl sc (eStr (kid e 0)) && okE sc vars a (kid e 1) && okE sc vars b (kid e 2) && okE sc vars c (kid e 3) && okE sc vars d (kid e 4)
  | .mk c a b d, e => cnmL[c]? == some (eStr (kid e 0)) && gl sc (eStr (kid e 0)) && okE sc vars a (kid e 1) && okE sc vars b (kid e 2) && okE sc vars d (kid e 3)
  | .meth f a, e => notCall (reE a (kid (kid e 0) 0)) && (kid e 0).pos.endLine == e.pos.line && f == 0 && okE sc vars a (kid (kid e 0) 0)
  | .b1 f a, e => gl sc (b1nm f) && okE sc vars a (kid e 1)
  | .barr, _ => gl sc ("bytearray" : Str)
  | .m0 _ a, e => notCall (reE a (kid (kid e 0) 0)) && (kid e 0).pos.endLine == e.pos.line && okE sc vars a (kid (kid e 0) 0)
  | .m1 _ a b, e => notCall (reE a (kid (kid e 0) 0)) && (kid e 0).pos.endLine == e.pos.line && okE sc vars a (kid (kid e 0) 0) && okE sc vars b (kid e 1)

theorem and2 {a b : Bool} (h : (a && b) = true) : a = true ∧ b = true := Bool.and_eq_true_iff.mp h
theorem not1 {a : Bool} (h : (!a) = true) : a = false := by cases a <;> first | rfl | exact (Bool.false_ne_true h).elim
theorem and3 {a b c : Bool} {P : Prop} (h : (a && b && c) = true) (k : a = true → b = true → c = true → P) : P := k (and2 (and2 h).1).1 (and2 (and2 h).1).2 (and2 h).2
theorem and4 {a b c d : Bool} {P : Prop} (h : (a && b && c && d) = true) (k : a = true → b = true → c = true → d = true → P) : P := and3 (and2 h).1 fun x y z => k x y z (and2 h).2
theorem and5 {a b c d e : Bool} {P : Prop} (h : (a && b && c && d && e) = true) (k : a = true → b = true → c = true → d = true → e = true → P) : P := and4 (and2 h).1 fun x y z u => k x y z u (and2 h).2
theorem and6 {a b c d e f : Bool} {P : Prop} (h : (a && b && c && d && e && f) = true) (k : a = true → b = true → c = true → d = true → e = true → f = true → P) : P := and5 (and2 h).1 fun x y z u v => k x y z u v (and2 h).2
theorem and8 {a b c d e f g i : Bool} {P : Prop} (h : (a && b && c && d && e && f && g && i) = true) (k : a = true → b = true → c = true → d = true → e = true → f = true → g = true → i = true → P) : P := and6 (and2 (and2 h).1).1 fun x y z u v w => k x y z u v w (and2 (and2 h).1).2 (and2 h).2

noncomputable def notSwap (e : PySem.Expr) : Bool := !tg e 5
noncomputable def notSt (e : PySem.Expr) : Bool := !tg e 4
noncomputable def tupOk (p : Pos) (ps : List Pos) (e : PySem.Expr) : Bool :=
  !tg e 7 || ((kids e).length == ps.length + 1 && (kids e).all notSt && ps.all (·.line == p.line) && !((kids e).all (foldedForSure 8)) && !((kids e).all (constantsAlone 8)))
noncomputable def nm0 : PySem.Expr := .Name "" default
set_option genInjectivity false in
structure SV where
  e : PySem.Expr
  t : PySem.Expr
  b : List Stmt
  o : List Stmt
  h : PySem.Expr × Stmt × Pos
noncomputable def xvH (l : List ExceptHandler) : PySem.Expr × Stmt × Pos := match l with | .ExceptHandler e _ b p :: _ => (e.getD nm0, b.headD (.Pass default), p) | [] => (nm0, .Pass default, default)
noncomputable def sv : Stmt → SV
  | .Assign ts v _ => ⟨v, ts.headD nm0, [], [], (nm0, .Pass default, default)⟩
  | .Return v _ => ⟨v.getD nm0, nm0, [], [], (nm0, .Pass default, default)⟩
  | .If e b o _ => ⟨e, nm0, b, o, (nm0, .Pass default, default)⟩
  | .While e b _ _ => ⟨e, nm0, b, [], (nm0, .Pass default, default)⟩
  | .For t e b _ _ => ⟨e, t, b, [], (nm0, .Pass default, default)⟩
  | .Expr v _ => ⟨v, nm0, [], [], (nm0, .Pass default, default)⟩
  | .Raise v _ _ => ⟨v.getD nm0, nm0, [], [], (nm0, .Pass default, default)⟩
  | .Try b hs _ _ _ => ⟨nm0, nm0, b, [], xvH hs⟩
  | _ => ⟨nm0, nm0, [], [], (nm0, .Pass default, default)⟩
noncomputable def sE (st : Stmt) : PySem.Expr := (sv st).e
noncomputable def sT (st : Stmt) : PySem.Expr := (sv st).t
noncomputable def sB (st : Stmt) : List Stmt := (sv st).b
noncomputable def sO (st : Stmt) : List Stmt := (sv st).o
noncomputable def sPos (st : Stmt) : Pos := st.pos
noncomputable def sH (st : Stmt) : PySem.Expr × Stmt × Pos := (sv st).h
noncomputable def isSkip : AS → Bool | .skip => true | _ => false
noncomputable def isRetN : AS → Bool | .ret e => isNo e | _ => false
noncomputable def isRN : AS → Bool | .seq s t => isRetN s && isSkip t | _ => false
set_option tactic.hygienic true in
theorem isRN_inv {t : AS} (h : isRN t = true) : t = .seq (.ret .none) .skip := by
  cases t <;> first | exact (Bool.false_ne_true h).elim | skip
  rename_i s t
  obtain ⟨h1, h2⟩ := Bool.and_eq_true_iff.mp (show (isRetN s && isSkip t) = true from h)
  cases t <;> first | exact (Bool.false_ne_true h2).elim | skip
  cases s <;> first | exact (Bool.false_ne_true h1).elim | skip
  rw [isNo_inv h1]

mutual
noncomputable def reS : AS → Stmt → Stmt
  | .skip, st => st
  | .seq _ _, st => st
  | .asg _ e, st => .Assign [.Name (eStr (sT st)) (sT st).pos] (reE e (sE st)) (sPos st)
  | .asg2 _ _ e, st => .Assign [.Tuple [.Name (eStr (kid (sT st) 0)) (kid (sT st) 0).pos, .Name (eStr (kid (sT st) 1)) (kid (sT st) 1).pos] (eK (sT st)) (sT st).pos] (reE e (sE st)) (sPos st)
  | .asg3 _ _ _ e, st => .Assign [.Tuple [.Name (eStr (kid (sT st) 0)) (kid (sT st) 0).pos, .Name (eStr (kid (sT st) 1)) (kid (sT st) 1).pos, .Name (eStr (kid (sT st) 2)) (kid (sT st) 2).pos] (eK (sT st)) (sT st).pos] (reE e (sE st)) (sPos st)
  | .setidx a b e, st => .Assign [.Subscript (reE a (kid (sT st) 0)) (reE b (kid (sT st) 1)) (sT st).pos] (reE e (sE st)) (sPos st)
  | .ret e, st => .Return (some (reE e (sE st))) (sPos st)
  | .ite c s t, st => .If (reE c (sE st)) (reB s (sB st)) (reB t (sO st)) (sPos st)
  | .while c s, st => .While (reE c (sE st)) (reB s (sB st)) [] (sPos st)
  | .forIn _ e s, st => .For (.Name (eStr (sT st)) (sT st).pos) (reE e (sE st)) (reB s (sB st)) [] (sPos st)
  | .forZip _ _ e f s, st => .For (.Tuple [.Name (eStr (kid (sT st) 0)) (kid (sT st) 0).pos, .Name (eStr (kid (sT st) 1)) (kid (sT st) 1).pos] (eK (sT st)) (sT st).pos)
      (.Call (.Name "zip" (kid (sE st) 0).pos) [reE e (kid (sE st) 1), reE f (kid (sE st) 2)] [] (sE st).pos) (reB s (sB st)) [] (sPos st)
  | .forRange _ n s, st => .For (.Name (eStr (sT st)) (sT st).pos) (.Call (.Name "range" (kid (sE st) 0).pos) [.Constant (.int n) (eK (kid (sE st) 1)) (kid (sE st) 1).pos] [] (sE st).pos) (reB s (sB st)) [] (sPos st)
  | .expr e, st => .Expr (reE e (sE st)) (sPos st)
  | .fault _, st => .Raise (some (.Call (.Name "AssemblyFault" (kid (sE st) 0).pos) [.Constant (.str (eStr (kid (sE st) 1))) (eK (kid (sE st) 1)) (kid (sE st) 1).pos, .Name "line" (kid (sE st) 2).pos] [] (sE st).pos)) none (sPos st)
  | .tryF s _, st => .Try (reB s (sB st)) [.ExceptHandler (some (.Name "AssemblyFault" (sH st).1.pos)) none [.Return (some (.Constant .none (eK (sE (sH st).2.1)) (sE (sH st).2.1).pos)) (sPos (sH st).2.1)] (sH st).2.2] [] [] (sPos st)
noncomputable def reB : AS → List Stmt → List Stmt
  | .seq s t, b => reS s (b.headD (.Pass default)) :: reB t b.tail
  | .skip, _ => []
  | .asg .., b => b | .asg2 .., b => b | .asg3 .., b => b | .setidx .., b => b | .ret _, b => b | .ite .., b => b | .while .., b => b
  | .forIn .., b => b | .forZip .., b => b | .forRange .., b => b | .expr _, b => b | .fault _, b => b | .tryF .., b => b
end
mutual
noncomputable def okS (sc : Scope) (vars : List Str) : AS → Stmt → Bool
  | .skip, _ => false
  | .seq _ _, _ => false
  | .asg i e, st => vars[i]? == some (eStr (sT st)) && sc.names.lookup (eStr (sT st)) == some .local && okE sc vars e (sE st) && notSwap (reE e (sE st))
  | .asg2 i j e, st => tupOk (kid (sT st) 0).pos [(kid (sT st) 1).pos] (reE e (sE st)) && decide (i ≠ j) && vars[i]? == some (eStr (kid (sT st) 0)) && vars[j]? == some (eStr (kid (sT st) 1)) &&
      sc.names.lookup (eStr (kid (sT st) 0)) == some .local && sc.names.lookup (eStr (kid (sT st) 1)) == some .local && okE sc vars e (sE st) && notSwap (reE e (sE st))
  | .asg3 i j k e, st => tupOk (kid (sT st) 0).pos [(kid (sT st) 1).pos, (kid (sT st) 2).pos] (reE e (sE st)) && decide (i ≠ j) && decide (i ≠ k) && decide (j ≠ k) && vars[i]? == some (eStr (kid (sT st) 0)) && vars[j]? == some (eStr (kid (sT st) 1)) && vars[k]? == some (eStr (kid (sT st) 2)) &&
      sc.names.lookup (eStr (kid (sT st) 0)) == some .local && sc.names.lookup (eStr (kid (sT st) 1)) == some .local && sc.names.lookup (eStr (kid (sT st) 2)) == some .local && okE sc vars e (sE st) && notSwap (reE e (sE st))
  | .setidx a b e, st => !isSl (reE b (kid (sT st) 1)) && okE sc vars e (sE st) && okE sc vars a (kid (sT st) 0) && okE sc vars b (kid (sT st) 1) && notSwap (reE e (sE st))
  | .ret e, st => okE sc vars e (sE st)
  | .ite c s t, st => okE sc vars c (sE st) && okB sc vars s (sB st) && okB sc vars t (sO st)
  | .while c s, st => okE sc vars c (sE st) && okB sc vars s (sB st)
  | .forIn i e s, st => vars[i]? == some (eStr (sT st)) && sc.names.lookup (eStr (sT st)) == some .local && okE sc vars e (sE st) && okB sc vars s (sB st)
  | .forZip i j e f s, st => gl sc ("zip" : Str) && vars[i]? == some (eStr (kid (sT st) 0)) && vars[j]? == some (eStr (kid (sT st) 1)) && sc.names.lookup (eStr (kid (sT st) 0)) == some .local && sc.names.lookup (eStr (kid (sT st) 1)) == some .local &&
      okE sc vars e (kid (sE st) 1) && okE sc vars f (kid (sE st) 2) && okB sc vars s (sB st)
  | .forRange i _ s, st => gl sc ("range" : Str) && vars[i]? == some (eStr (sT st)) && sc.names.lookup (eStr (sT st)) == some .local && okB sc vars s (sB st)
  | .expr e, st => okE sc vars e (sE st) && notSwap (reE e (sE st))
  | .fault i, _ => gl sc ("AssemblyFault" : Str) && sc.names.lookup ("line" : Str) == some .local && vars[i]? == some ("line" : Str)
  | .tryF s t, st => isRN t && gl sc ("AssemblyFault" : Str) && okB sc vars s (sB st)
noncomputable def okB (sc : Scope) (vars : List Str) : AS → List Stmt → Bool
  | .seq s t, b => okS sc vars s (b.headD (.Pass default)) && okB sc vars t b.tail
  | .skip, _ => true
  | .asg .., _ => false | .asg2 .., _ => false | .asg3 .., _ => false | .setidx .., _ => false | .ret _, _ => false | .ite .., _ => false | .while .., _ => false
  | .forIn .., _ => false | .forZip .., _ => false | .forRange .., _ => false | .expr _, _ => false | .fault _, _ => false | .tryF .., _ => false
end

/-! a function object of the written part -/
noncomputable def fdAt (K : Frag) (a : Addr) : FuncData := match K.lookup a with | some o => (match o.data with | .func fd => fd | _ => default) | none => default
noncomputable def isFnAt (K : Frag) (a : Addr) : Bool := match K.lookup a with | some o => (match o.data with | .func _ => true | _ => false) | none => false
noncomputable def bodyOf (fd : FuncData) : List Stmt := match fd.body with | .stmts b => b | _ => []
noncomputable def stAt (fd : FuncData) (i : Nat) : Stmt := (bodyOf fd).getD i (.Pass default)
theorem isFnAt_inv {K : Frag} {a : Addr} (h : isFnAt K a = true) : ∃ o, K.lookup a = some o ∧ o.data = .func (fdAt K a) := by
  unfold isFnAt at h
  unfold fdAt
  cases e : K.lookup a with
  | none => rw [e] at h; exact (Bool.false_ne_true h).elim
  | some o =>
    rw [e] at h
    refine ⟨o, rfl, ?_⟩
    show o.data = .func (match o.data with | .func fd => fd | _ => default)
    have h : (match o.data with | .func _ => true | _ => false) = true := h
    cases hd : o.data <;> first | rfl | (rw [hd] at h; exact (Bool.false_ne_true h).elim)
/-- a plain def: no generator, no cell -/
structure Plain1 (K : Frag) (a : Addr) : Prop where
  isf : isFnAt K a = true
  gl : (fdAt K a).globals = mainGlobals ∧ (fdAt K a).closure = [] ∧ (fdAt K a).builtins = builtinsNs
  cd : codeIn K (fdAt K a).code (fdAt K a).qualname = true
  kd : (!(fdAt K a).scope.isCoroutine && !(fdAt K a).scope.isGenerator && (fdAt K a).scope.kind == .function) = true
  cell : ((fdAt K a).scope.names.all fun x => !(x.2 == .cell)) = true
theorem noCell {fd : FuncData} (h : (fd.scope.names.all fun x => !(x.2 == .cell)) = true) : ∀ x ∈ fd.scope.names, x.2 ≠ .cell := fun x hx e => by
  have := List.all_eq_true.mp h x hx
  rw [e] at this; exact Bool.false_ne_true this
theorem callEnv_of {fd : FuncData} {L a : Addr} (h : fd.globals = mainGlobals ∧ fd.closure = [] ∧ fd.builtins = builtinsNs) : callEnv fd L a = envOf fd.qualname fd.scope L a fd.code := by
  show newEnv _ _ _ _ _ _ _ _ _ = _
  rw [h.1, h.2.1, h.2.2]; rfl
end Nm
end

section
open PySem PySem.W PySem.Calls PyProof.Rows Builtin Builtin.ObjectAttr
set_option tactic.hygienic false
set_option maxRecDepth 100000
set_option maxHeartbeats 4000000
namespace Nm

noncomputable abbrev excMro : List Value := [.ref cAF, .type "Exception", .type "BaseException", .type "object"]
theorem refuse_exc (self : Value) : refuseLoop self "__setattr__" excMro = pure () := by
  show refuseLoop self "__setattr__" (.ref cAF :: _) = _
  rw [refuseLoop_ref]; kernel_rfl

structure ExcK (K : Frag) : Prop where
  cd : ∃ cd, clsIn K cAF = some cd ∧ cd.mro = excMro ∧ cd.hasDict = true
  set : findIn K (.ref cAF) "__setattr__" = some (some (.builtin "object.__setattr__"))
  word : takerIn K cAF "word" = some none
  line : takerIn K cAF "line" = some none

section
variable {prog : Program} {w : World} {A : Around} {K : Frag} {e : Addr} {s : Shared} {R : Result → Shared → Prop}

theorem exc_osa {ox : Obj} {od : Option Obj} {name : Str} {tk : Tok} {v : Value} (X : K.In s.heap) (F : ExcK K) (I : InstAt s.heap e ox cAF od) (ht : takerIn K cAF name = some none)
    (h : ∀ b, wpAny (model prog w) A.in1 (storeInOwnDict (.ref e) (.ref cAF) (.str name tk) name v b)
      (fun fin s' => match fin with | .done f => R (.ok f) s' | .again c' => c'.quiet = true ∧ codeAny (model prog w) A c' R s') (fun e s' => R (.error e) s') s) :
    codeAny (model prog w) A (.call (.builtin "object.__setattr__") ⟨[.ref e, .str name tk, v], []⟩) R s := by
  have SF := PySem.F.store_object
  obtain ⟨cd, hc, ho, _⟩ := F.cd
  have ne : cd.mro.isEmpty = false := by rw [ho]; rfl
  have sub : Looks (model prog w) s.heap (isInstance (.ref e) (.type "object")) true := I.type.andThen (looks_mroIn X (by unfold mroIn; rw [hc, Option.bind_some, if_neg (by rw [ne]; decide), ho]; rfl))
  refine codeAny_call_builtin SF.slot.plain SF.entry (@check_slot (model prog w) _ _ s "object.__setattr__" "object" "__setattr__" (.ref e) [.str name tk, v] [] _ SF.kind SF.split sub (SF.args (.ref e) (.str name tk) v) ?_)
  obtain ⟨attr, ha, hr⟩ := Option.bind_eq_some_iff.mp ht
  have hm : Looks (model prog w) s.heap (mroOf (.ref cAF)) cd.mro := (looks_clsIn X hc).andThen .now
  have L3 : Looks (model prog w) s.heap (storeTaker? attr) none := by
    cases attr with
    | none => exact .now
    | some a =>
      obtain ⟨b, hb, hb'⟩ := Option.map_eq_some_iff.mp hr
      refine (looks_takesIn X hb).andThen ?_
      cases b <;> first | exact .now | cases hb'
  rw [osa_eq, refuse_eq]
  refine wpAny_bind (wpAny_bind (I.type.here (wpAny_bind (hm.here ?_))))
  rw [ho, refuse_exc]
  refine wpAny_pure (wpAny_bind (I.type.here (wpAny_bind ((looks_findIn X ha).here (wpAny_bind (L3.here ?_))))))
  exact h _

set_option tactic.hygienic true in
theorem store_dict {A : Around} {d : Addr} {es : List DictEntry} {n : Nat} {name : Str} {tk : Tok} {v : Value} {Q : Fin → Shared → Prop} {E : Value → Shared → Prop} (D : s.heap.get? d = some (dictOf es n)) (hl : (getL name es).isSome = true) (hz : es.length ≤ 100)
    (h : ∀ h' hs tk k, (∀ b o, b ≠ d → s.heap.get? b = some o → h'.get? b = some o) → h'.get? d = some (dictOf (putL name hs (.str name s.toks) v es) k) → Q (.done (.ret .none)) { s with heap := h', toks := tk }) :
    wpAny (model prog w) A (storeInDict d (.str name tk) name v) Q E s := by
  have e1 := putName_dict name (PyData.keyHash w.params name) (.str name s.toks) v es n
  have U := Heap.get?_update_self (Obj.putName name (PyData.keyHash w.params name) (.str name s.toks) v) D (by rw [e1]; rfl)
  rw [e1] at U
  have hlen : (putL name (PyData.keyHash w.params name) (.str name s.toks) v es).length ≤ es.length + 1 := by
    clear U e1 h hl D hz
    induction es with
    | nil => exact Nat.le_refl _
    | cons e r ih =>
      unfold putL
      by_cases h : e.key.isStr name = true
      · rw [if_pos h]; exact Nat.le_succ _
      · rw [if_neg h]; exact Nat.succ_le_succ ih
  refine wpAny_bind (wpAny_pure (wpAny_bind ?_))
  unfold nsSet
  refine wpAny_bind (wpAny_bind (wpAny_askSetting (wpAny_pure (wpAny_bind (wpAny_mkText (wpAny_bind (wpAny_loadPart (s := { s with toks := s.toks + 1 }) D ?_)))))))
  dsimp only
  have c : (!(es.toArray).any (·.key.isStr name) && (es.toArray).any (·.refKey)) = false := by
    rw [← Array.any_toList, ← Array.any_toList]
    unfold getL at hl
    cases he : es.find? (·.key.isStr name) with
    | some en => rw [List.any_eq_true.mpr ⟨en, List.mem_of_find?_eq_some he, List.find?_some he⟩]; rfl
    | none =>
      rw [he] at hl
      cases hr : es.any (·.refKey) with
      | true => rw [hr] at hl; cases hl
      | false => exact Bool.and_false _
  rw [aRefKeyMayBeTheName_at, c]
  refine wpAny_updatePart (s := { s with toks := s.toks + 1 }) D ?_
  refine wpAny_bind (wpAny_lookBehind (o := dictOf _ _) U (pastItsLine_dict (by rw [List.size_toArray, sizeLine_eq]; omega)) ?_)
  exact wpAny_pure (h _ _ _ _ (fun b o hb e => (Heap.get?_update_other _ _ (Ne.symm hb)).trans e) U)

/-- the first store makes the dict -/
theorem exc_first {vs : Array Value} {name : Str} {v : Value} {Q : Unit → Shared → Prop} {E : Value → Shared → Prop} (X : K.In s.heap) (F : ExcK K) (he : s.heap.get? e = some { cls := .ref cAF, data := .fields vs }) (ht : takerIn K cAF name = some none)
    (hQ : ∀ h' d hs t tk n, (∀ b o, b ≠ e → s.heap.get? b = some o → h'.get? b = some o) → h'.get? e = some { cls := .ref cAF, dict := some d, data := .fields vs } → s.heap.get? d = none → h'.get? d = some (dictOf [⟨hs, .str name t, v⟩] n) → Q () { s with heap := h', toks := tk }) :
    wpAny (model prog w) A (setAttr (.ref e) name v) Q E s := by
  have I : InstAt s.heap e { cls := .ref cAF, data := .fields vs } cAF none := ⟨he, rfl, rfl, trivial⟩
  obtain ⟨cd, hc, ho, hd⟩ := F.cd
  have hne : s.heap.objs.size ≠ e := Nat.ne_of_gt (Heap.lt_size he)
  have hfree : s.heap.get? s.heap.objs.size = none := Heap.get?_none_of_le (Nat.le_refl _)
  refine set_plain X I F.set (exc_osa (s := { s with toks := s.toks + 1 }) X F I ht fun b => ?_)
  refine wpAny_bind (wpAny_pure (wpAny_bind (wpAny_bind (wpAny_loadPart he (wpAny_bind (Looks.here (s := { s with toks := s.toks + 1 }) (looks_clsIn X hc) ?_))))))
  rw [hd]
  have he1 : (s.heap.push emptyDict).get? e = some { cls := .ref cAF, data := .fields vs } := Heap.get?_push_of_some _ he
  refine wpAny_bind (wpAny_alloc (wpAny_bind (wpAny_update (s := { s with heap := s.heap.push emptyDict, toks := s.toks + 1 }) he1 (wpAny_pure ?_))))
  have U := Heap.get?_update_self (fun o : Obj => { o with dict := some s.heap.objs.size }) he1 rfl
  have D : ((s.heap.push emptyDict).update e (fun o : Obj => { o with dict := some s.heap.objs.size })).get? s.heap.objs.size = some (dictOf [] 0) := (Heap.get?_update_other _ _ (Ne.symm hne)).trans (Heap.get?_push_size _ rfl)
  refine store_dict (s := { s with heap := _, toks := s.toks + 1 }) D rfl (by simp) fun h' hs tk k kp at_ => ?_
  refine hQ h' _ _ _ tk k (fun b o hb e1 => kp b o (fun q => by rw [q, hfree] at e1; cases e1) ((Heap.get?_update_other _ _ (Ne.symm hb)).trans (Heap.get?_push_of_some _ e1))) (kp _ _ hne.symm U) hfree at_

/-- the next store -/
theorem exc_next {vs : Array Value} {d : Addr} {es : List DictEntry} {n : Nat} {name : Str} {v : Value} {Q : Unit → Shared → Prop} {E : Value → Shared → Prop} (X : K.In s.heap) (F : ExcK K) (he : s.heap.get? e = some { cls := .ref cAF, dict := some d, data := .fields vs })
    (D : s.heap.get? d = some (dictOf es n)) (ht : takerIn K cAF name = some none) (hl : (getL name es).isSome = true) (hz : es.length ≤ 100)
    (hQ : ∀ h' tk, (∀ b o, b ≠ d → s.heap.get? b = some o → h'.get? b = some o) → Q () { s with heap := h', toks := tk }) :
    wpAny (model prog w) A (setAttr (.ref e) name v) Q E s := by
  have I : InstAt s.heap e { cls := .ref cAF, dict := some d, data := .fields vs } cAF (some (dictOf es n)) := ⟨he, rfl, rfl, D⟩
  obtain ⟨cd, hc, ho, hd⟩ := F.cd
  refine set_plain X I F.set (exc_osa (s := { s with toks := s.toks + 1 }) X F I ht fun b => ?_)
  refine wpAny_bind (wpAny_pure (wpAny_bind (wpAny_bind (wpAny_loadPart he (wpAny_bind (Looks.here (s := { s with toks := s.toks + 1 }) (looks_clsIn X hc) ?_))))))
  rw [hd]
  refine wpAny_pure (a := some d) ?_
  exact store_dict (s := { s with toks := s.toks + 1 }) D hl hz fun h' hs tk k kp at_ => hQ h' tk kp
end

/-- the fault's maker -/
noncomputable def callSt (e : PySem.Expr) (st : Stmt) : Stmt := .Expr (.Call (.Attribute (.Name "Exception" (kid (kid e 0) 0).pos) "__init__" (kid e 0).pos) [.Name "self" (kid e 1).pos, .Name "word" (kid e 2).pos] [] e.pos) st.pos
noncomputable def setSt (n : Str) (st : Stmt) : Stmt := .Assign [.Attribute (.Name "self" (kid (sT st) 0).pos) n (sT st).pos] (.Name n (sE st).pos) st.pos
structure FaultFn (K : Frag) : Prop where
  p : Plain1 K 56
  cls : (K.lookup 56).map (·.cls) = some (.type "function")
  stm : (fdAt K 56).body = .stmts [callSt (sE (stAt (fdAt K 56) 0)) (stAt (fdAt K 56) 0), setSt "word" (stAt (fdAt K 56) 1), setSt "line" (stAt (fdAt K 56) 2)]
  bind : ∀ x a b, bindArgs (fdAt K 56) ⟨[x, a, b], []⟩ = pure [(("self" : Str), x), (("word" : Str), a), (("line" : Str), b)]
  l0 : (fdAt K 56).scope.names.lookup ("self" : Str) = some .local
  l1 : (fdAt K 56).scope.names.lookup ("word" : Str) = some .local
  l2 : (fdAt K 56).scope.names.lookup ("line" : Str) = some .local
  l3 : (fdAt K 56).scope.names.lookup ("Exception" : Str) = some .globalImplicit
  en : ((kid (sE (stAt (fdAt K 56) 0)) 0).pos.endLine == (sE (stAt (fdAt K 56) 0)).pos.line) = true
  ek : ExcK K
  ns : nsIn K mainGlobals "Exception" = some none
  fc : findCls K (.type "Exception") (.type "type") "__init__" = some (.val (.builtin "Exception.__init__"))
set_option genInjectivity false in
/-- the fault's class -/
structure ExcX where
  nm : Str
  q : Str
  N : Addr
  bs : List Value
  hdct : Bool
  sn : List Str
  sub : List Value
  ab : Bool
  col : Option Bool
  dd : Option Addr
  k0 : Option Value
  k1 : Option Value
  k2 : Option Value
  k3 : Option Value
  k5 : Option Value
noncomputable def ExcX.obj (x : ExcX) : Obj := excClassObj x.nm x.q cAF x.N x.bs [.type "Exception", .type "BaseException", .type "object"] x.hdct x.sn x.sub x.ab x.col x.dd x.k0 x.k1 x.k2 x.k3 x.k5 "Exception.__new__"

end Nm
end

section
open PySem PySem.W PySem.Calls PyProof.Rows
set_option tactic.hygienic false
set_option maxRecDepth 100000
set_option maxHeartbeats 4000000
namespace Nm

/-- a class whose maker stores three fields -/
structure MkOK (K : Frag) (C fI : Addr) (n1 n2 n3 : Str) : Prop where
  p : Plain1 K fI
  stm : (fdAt K fI).body = .stmts [setSt n1 (stAt (fdAt K fI) 0), setSt n2 (stAt (fdAt K fI) 1), setSt n3 (stAt (fdAt K fI) 2)]
  bind : ∀ x a b c, bindArgs (fdAt K fI) ⟨[x, a, b, c], []⟩ = pure [(("self" : Str), x), (n1, a), (n2, b), (n3, c)]
  l0 : (fdAt K fI).scope.names.lookup ("self" : Str) = some .local
  l1 : (fdAt K fI).scope.names.lookup n1 = some .local
  l2 : (fdAt K fI).scope.names.lookup n2 = some .local
  l3 : (fdAt K fI).scope.names.lookup n3 = some .local
  mkr : makesIn K C = true
  ini : findIn K (.ref C) "__init__" = some (some (.ref fI))
  fn : typeIn K (.ref fI) = some (.type "function")
  set : findIn K (.ref C) "__setattr__" = some (some (.builtin "object.__setattr__"))
  plain : plainOver K C = true
  hd : hasDictIn K C = true
  t1 : takerIn K C n1 = some none
  t2 : takerIn K C n2 = some none
  t3 : takerIn K C n3 = some none
  ne : ((n1 == n2) || (n1 == n3) || (n2 == n3) || (("self" : Str) == n1) || (("self" : Str) == n2) || (("self" : Str) == n3) || (n1 == ("__debug__" : Str)) || (n2 == ("__debug__" : Str)) || (n3 == ("__debug__" : Str))) = false
theorem or0 {a b : Bool} (h : (a || b) = false) : a = false ∧ b = false := Bool.or_eq_false_iff.mp h

theorem putL_len (n : Str) (hs : Int) (kv v : Value) : ∀ es : List DictEntry, (putL n hs kv v es).length ≤ es.length + 1
  | [] => Nat.le_refl _
  | e :: r => by
    unfold putL
    by_cases h : e.key.isStr n = true
    · rw [if_pos h]; exact Nat.le_succ _
    · rw [if_neg h]; exact Nat.succ_le_succ (putL_len n hs kv v r)

theorem isStr_eq (a b : Str) (t : Tok) : (Value.str a t).isStr b = (a == b) := rfl

theorem set1 {prog : Program} {w : World} {A : Around} {s : Shared} {K : Frag} {h₀ : Heap} {L x dx C f : Addr} {m : Str → Option Value} {n qual : Str} {scope : Scope} {cdv v : Value} {es : List DictEntry} {k : Nat} {a1 a2 a3 a4 : Pos} {E : Value → Shared → Prop} {R : Shared → Prop}
    (X₀ : K.In h₀) (F : Fr h₀ L s.heap m) (N : News h₀ L s.heap [(x, instObj C dx), (dx, dictOf es k)]) (hne : x ≠ dx) (hset : findIn K (.ref C) "__setattr__" = some (some (.builtin "object.__setattr__"))) (hplain : plainOver K C = true) (hhd : hasDictIn K C = true)
    (ht : takerIn K C n = some none) (hl : (getL n es).isSome = true) (hz : es.length ≤ 10) (hk : scope.kind = .function) (l0 : scope.names.lookup ("self" : Str) = some .local) (l1 : scope.names.lookup n = some .local) (hself : m "self" = some (.ref x)) (hv : m n = some v) (hd : (n == ("__debug__" : Str)) = false)
    (hR : ∀ h' hs t tk k', Fr h₀ L h' m → News h₀ L h' [(x, instObj C dx), (dx, dictOf (putL n hs (.str n t) v es) k')] → R { s with heap := h', toks := tk }) :
    wpAny (model prog w) A (exec (.Assign [.Attribute (.Name "self" a1) n a2] (.Name n a3) a4) (envOf qual scope L f cdv)) (fun fl s' => fl = .next ∧ R s') E s := by
  refine plainObj_wpAny_Assign_Attribute (ld F hv (ld F hself ?_ hk l0 (by decide)) hk l1 hd)
  have I : InstAt s.heap x (instObj C dx) C (some (dictOf es k)) := InstAt.of_news N (.head _) (.tail _ (.head _))
  refine set_dict F X₀ N I rfl hset hplain ht hhd hl rfl (.tail hne (.head fun p hp => nomatch hp)) ?_ fun h' F' N' => ⟨rfl, hR h' _ _ _ _ F' N'⟩
  have := putL_len n (PyData.keyHash w.params n) (.str n (s.toks + 1)) v es
  omega

theorem mk3 {prog : Program} {w : World} {A : Around} {s : Shared} {K : Frag} {C fI : Addr} {n1 n2 n3 : Str} {va vb vc : Value} {Q : Value → Shared → Prop} {E : Value → Shared → Prop} (X : K.In s.heap) (M : MkOK K C fI n1 n2 n3) (hroom : A.depth + 2 < recursionLimit) (hlim : s.heap.NoLimit)
    (hq : ∀ h' k x d es n, (∀ b o, s.heap.get? b = some o → h'.get? b = some o) → s.heap.get? x = none → s.heap.get? d = none → h'.get? x = some (instObj C d) → h'.get? d = some (dictOf es n) →
      (∃ v, getL n1 es = some (some v) ∧ v = va) → (∃ v, getL n2 es = some (some v) ∧ v = vb) → (∃ v, getL n3 es = some (some v) ∧ v = vc) → (∀ y, y ≠ n1 → y ≠ n2 → y ≠ n3 → getL y es = some none) → Q (.ref x) { s with heap := h', toks := k }) :
    wpAny (model prog w) A (call (.ref C) [va, vb, vc]) Q E s := by
  obtain ⟨h, g, d, t, os⟩ := s
  obtain ⟨o, ho, hdo⟩ := isFnAt_inv M.p.isf
  refine wpAny_call (make_core (makes_of X M.mkr) (looks_findIn X M.ini) (fun self => bind_fn X self M.fn) (.inl rfl) ?_)
  have k0 : ∀ b o, h.get? b = some o → ((h.push emptyDict).push (instObj C h.objs.size)).get? b = some o := fun b o e => Heap.get?_push_of_some _ (Heap.get?_push_of_some _ e)
  have X0 := X.keeps k0
  have hw : (Code.builtin "type.__call__" ⟨.ref C :: [va, vb, vc], []⟩).weight = 0 ∨ (Code.builtin "type.__call__" ⟨.ref C :: [va, vb, vc], []⟩).weight = 1 := by first | exact .inl rfl | exact .inr rfl
  refine and3 M.p.kd fun hco hgen hk => ?_
  have hk := beq_iff_eq.mp hk
  refine codeAny_call_def (s := ⟨(h.push emptyDict).push (instObj C h.objs.size), g, d, t, os⟩) (by show A.depth + _ < recursionLimit; rcases hw with e | e <;> rw [e] <;> omega) (X0 _ _ ho) hdo (hlim.imp fun mc h => ⟨h.1.keeps k0, h.2⟩) (codeRec_of X0 M.p.cd) M.stm (BindsTo.of_eq (M.bind _ _ _ _)) (noCell M.p.cell) (fun x hx => ?_) (fun h₀ hns hk₀ => ?_) (not1 hco) (not1 hgen) hk
  · simp only [List.mem_cons, List.not_mem_nil, or_false] at hx
    rcases hx with rfl | rfl | rfl | rfl
    · exact M.l0
    · exact M.l1
    · exact M.l2
    · exact M.l3
  rw [callEnv_of M.p.gl]
  have hx0 : ((h.push emptyDict).push (instObj C h.objs.size)).get? (h.objs.size + 1) = some (instObj C h.objs.size) := by heap_get
  have hd0 : ((h.push emptyDict).push (instObj C h.objs.size)).get? h.objs.size = some (dictOf [] 0) := by heap_get
  have hsz : ((h.push emptyDict).push (instObj C h.objs.size)).objs.size = h.objs.size + 2 := by simp [Heap.size_push]
  generalize hL : (Shared.heap ⟨(h.push emptyDict).push (instObj C h.objs.size), g, d, t, os⟩).objs.size = L at *
  have hLe : L = h.objs.size + 2 := hsz
  have F : Fr h L h₀ _ := ⟨hns, fun b o e => hk₀ b o (k0 b o e), by omega⟩
  have N : News h L h₀ [(h.objs.size + 1, instObj C h.objs.size), (h.objs.size, dictOf [] 0)] := fun p hp => by
    simp only [List.mem_cons, List.not_mem_nil, or_false] at hp
    rcases hp with rfl | rfl
    · exact ⟨hk₀ _ _ hx0, by show h.objs.size + 1 ≠ L; omega, Heap.get?_none_of_le (Nat.le_succ _)⟩
    · exact ⟨hk₀ _ _ hd0, by show h.objs.size ≠ L; omega, Heap.get?_none_of_le (Nat.le_refl _)⟩
  have hne : h.objs.size + 1 ≠ h.objs.size := by omega
  have ne := or0 M.ne
  have g3 := ne.2
  have ne := or0 ne.1
  have g2 := ne.2
  have ne := or0 ne.1
  have g1 := ne.2
  have ne := or0 ne.1
  have s3 := ne.2
  have ne := or0 ne.1
  have s2 := ne.2
  have ne := or0 ne.1
  have s1 := ne.2
  have ne := or0 ne.1
  have e23 := ne.2
  have e12 := (or0 ne.1).1
  have e13 := (or0 ne.1).2
  have m0 : [(("self" : Str), Value.ref (h.objs.size + 1)), (n1, va), (n2, vb), (n3, vc)].reverse.lookup ("self" : Str) = some (.ref (h.objs.size + 1)) := by simp [List.lookup_cons, s1, s2, s3]
  have m1 : [(("self" : Str), Value.ref (h.objs.size + 1)), (n1, va), (n2, vb), (n3, vc)].reverse.lookup n1 = some va := by simp [List.lookup_cons, e12, e13]
  have m2 : [(("self" : Str), Value.ref (h.objs.size + 1)), (n1, va), (n2, vb), (n3, vc)].reverse.lookup n2 = some vb := by simp [List.lookup_cons, e23]
  have m3 : [(("self" : Str), Value.ref (h.objs.size + 1)), (n1, va), (n2, vb), (n3, vc)].reverse.lookup n3 = some vc := by simp [List.lookup_cons]
  refine wpAny_execs_cons (wpAny_mono (set1 (R := ?R1) X F N hne M.set M.plain M.hd M.t1 rfl (by simp) hk M.l0 M.l1 m0 m1 g1 ?k1) (fun f s' z => ?g1) fun _ _ x => x)
  case g1 => obtain ⟨rfl, z⟩ := z; exact z
  intro h₁ hs1 tk1 q1 k1 F1 N1
  refine wpAny_execs_cons (wpAny_mono (set1 (R := ?R2) X F1 N1 hne M.set M.plain M.hd M.t2 (by simp [putL, getL, isStr_eq, e12, DictEntry.refKey]) (by simp [putL]) hk M.l0 M.l2 m0 m2 g2 ?k2) (fun f s' z => ?g2) fun _ _ x => x)
  case g2 => obtain ⟨rfl, z⟩ := z; exact z
  intro h₂ hs2 tk2 q2 k2 F2 N2
  refine wpAny_execs_cons (wpAny_mono (set1 (R := ?R3) X F2 N2 hne M.set M.plain M.hd M.t3 (by simp [putL, getL, isStr_eq, e12, e13, e23, DictEntry.refKey]) (by simp [putL, isStr_eq, e12]) hk M.l0 M.l3 m0 m3 g3 ?k3) (fun f s' z => ?g3) fun _ _ x => x)
  case g3 => obtain ⟨rfl, z⟩ := z; exact z
  intro h₃ hs3 tk3 q3 k3 F3 N3
  refine wpAny_execs_nil ⟨rfl, ?_⟩
  refine hq h₃ _ _ _ _ _ F3.keep (Heap.get?_none_of_le (Nat.le_succ _)) (Heap.get?_none_of_le (Nat.le_refl _)) (N3 _ (.head _)).1 (N3 _ (.tail _ (.head _))).1 ⟨va, ?_, rfl⟩ ⟨vb, ?_, rfl⟩ ⟨vc, ?_, rfl⟩ fun y y1 y2 y3 => ?_
  · simp [putL, getL, isStr_eq, e12, e13, e23, DictEntry.refKey]
  · simp [putL, getL, isStr_eq, e12, e13, e23, DictEntry.refKey]
  · simp [putL, getL, isStr_eq, e12, e13, e23, DictEntry.refKey]
  · have f1 : (n1 == y) = false := beq_eq_false_iff_ne.mpr (Ne.symm y1)
    have f2 : (n2 == y) = false := beq_eq_false_iff_ne.mpr (Ne.symm y2)
    have f3 : (n3 == y) = false := beq_eq_false_iff_ne.mpr (Ne.symm y3)
    simp [putL, getL, isStr_eq, e12, e13, e23, f1, f2, f3, DictEntry.refKey]
end Nm
end

section
open PySem PySem.W PySem.Calls PyProof.Rows
set_option tactic.hygienic false
set_option maxRecDepth 100000
namespace Nm

structure KF (K : Frag) : Prop where
  mkS : MkOK K cSUM 28 "plus" "minus" "number"
  mkP : MkOK K cPIECE 79 "kind" "text" "value"
  sum : KC K cSUM sumNames
  piece : KC K cPIECE pieceNames
  fn : ∀ i x, fnOk i x = true → nsIn K mainGlobals x = some (some (.ref (faddr i))) ∧ keepIn K (.ref (faddr i)) = true
  gv : ∀ g x, gnmL[g]? = some x → ∃ v, nsIn K mainGlobals x = some (some v) ∧ VR (gval g) v
  nob : ∀ x, x ∈ (["len", "abs", "chr", "ord", "bytes", "bytearray", "zip", "range"] : List Str) → nsIn K mainGlobals x = some none
  cls : nsIn K mainGlobals "Sum" = some (some (.ref cSUM)) ∧ keepIn K (.ref cSUM) = true ∧ nsIn K mainGlobals "Piece" = some (some (.ref cPIECE)) ∧ keepIn K (.ref cPIECE) = true ∧ nsIn K mainGlobals "AssemblyFault" = some (some (.ref cAF)) ∧ keepIn K (.ref cAF) = true
  meth : findIn K (.ref cSUM) "is_number" = some (some (.ref 35)) ∧ typeIn K (.ref 35) = some (.type "function") ∧ keepIn K (.ref 35) = true
  tb : ∀ t ∈ tabs, (K.lookup t).isSome = true
  exc : ∃ x : ExcX, K.lookup cAF = some x.obj ∧ nsIn K x.N "__init__" = some (some (.ref 56)) ∧ nsOkIn K x.N = true
  ff : FaultFn K

structure Cx (K : Frag) (base : Heap) (mg mb : Str → Option Value) : Prop where
  kin : K.In base
  g : base.Ns mainGlobals mg
  b : base.Ns builtinsNs mb
  lim : base.NoLimit
  bi : ∀ x : Str, x ≠ "__name__" → mb x = bootBuiltins x
  kf : KF K

structure EnvOK (env : Env) (sc : Scope) (L : Addr) : Prop where
  scope : env.scope = sc
  kind : sc.kind = .function
  loc : env.locals = L
  frame : env.frame = some L
  glob : env.globals = mainGlobals
  bi : env.builtins = builtinsNs
  cells : env.cells = []

noncomputable def LR (vars : List Str) (ρ : List AV) (m : Str → Option Value) : Prop :=
  ρ.length = vars.length ∧ ∀ (i : Nat) (x : Str) (v : AV), vars[i]? = some x → ρ[i]? = some v → v ≠ .unb → ∃ u, m x = some u ∧ VR v u

structure Ok (n : Nat) (A : Around) (env : Env) (outer : List Env) (L : Addr) (m : Str → Option Value) (frs : Frs) : Prop where
  hh : A.handled = none
  fr : A.frames = some (env :: outer)
  ea : EnvsAre (env :: outer) ((L, m) :: frs)
  dep : A.depth + n + 2 < recursionLimit
  un : A.units + 8 * n + 200 < cLine

variable {prog : Program} {w : World} {base : Heap} {frs : Frs} {os : OsState} {σ : AH} {s : Shared} {A : Around} {K : Frag} {mg mb : Str → Option Value}

/-- calls do what they say -/
noncomputable def CS (prog : Program) (w : World) (base : Heap) (os : OsState) (n : Nat) (C : CallT) : Prop :=
  ∀ f args σ (Q : VQ) (E : AH → Prop) (A : Around) (s : Shared) (env : Env) (outer : List Env) (L : Addr) (m : Str → Option Value) (frs : Frs) (vs : List Value),
    Ok n A env outer L m frs → St prog w base ((L, m) :: frs) os σ s → VRs args vs → C f args σ Q E →
    wpAny (model prog w) A (call (.ref (faddr f)) vs) (QQ prog w base ((L, m) :: frs) os Q) (XC prog w base os ((L, m) :: frs) E) s

theorem XC.toXE {L : Addr} {m : Str → Option Value} {R : AH → Prop} {x : Value} {s' : Shared} (h : XC prog w base os ((L, m) :: frs) R x s') : XE prog w base L frs os R x s' := by
  obtain ⟨e, σ', e1, S, X, r⟩ := h
  exact ⟨e, σ', m, e1, S, .inr (.inl X), r⟩

theorem ldL {n : Nat} {env : Env} {outer : List Env} {L : Addr} {m : Str → Option Value} {sc : Scope} {x : Str} {pos : Pos} {v : Value} {R : Value → Shared → Prop} {E : Value → Shared → Prop} (EO : EnvOK env sc L)
    (S : St prog w base ((L, m) :: frs) os σ s) (hx : sc.names.lookup x = some .local) (hd : (x == ("__debug__" : Str)) = false) (hm : m x = some v) (h : R v s) : wpAny (model prog w) A (eval (.Name x pos) env) R E s := by
  refine wpAny_Name (wpAny_loadName_local (by rw [EO.scope]; exact EO.kind) (by unfold Env.kindOf; rw [EO.scope]; exact hx) (m := m) ?_ hm h) hd
  rw [EO.loc]; exact (S.fr _ (.head _)).1

theorem ldG {env : Env} {L : Addr} {m : Str → Option Value} {sc : Scope} {x : Str} {pos : Pos} {v : Value} {R : Value → Shared → Prop} {E : Value → Shared → Prop} (cx : Cx K base mg mb) (EO : EnvOK env sc L)
    (S : St prog w base ((L, m) :: frs) os σ s) (hx : gl sc x = true) (hm : nsIn K mainGlobals x = some (some v)) (h : R v s) : wpAny (model prog w) A (eval (.Name x pos) env) R E s := by
  simp only [gl, Bool.and_eq_true, beq_iff_eq, Bool.not_eq_true'] at hx
  refine Name_function_global (by rw [EO.scope]; exact EO.kind) (by unfold Env.kindOf; rw [EO.scope]; exact hx.1) (loadGlobal_global (mg := mg) ?_ (mg_of cx.kin cx.g hm) h) hx.2
  rw [EO.glob]; exact cx.g.keeps S.stays

theorem ldB {env : Env} {L : Addr} {m : Str → Option Value} {sc : Scope} {x : Str} {pos : Pos} {v : Value} {R : Value → Shared → Prop} {E : Value → Shared → Prop} (cx : Cx K base mg mb) (EO : EnvOK env sc L)
    (S : St prog w base ((L, m) :: frs) os σ s) (hx : gl sc x = true) (hm : nsIn K mainGlobals x = some none) (hv : bootBuiltins x = some v) (hn : x ≠ "__name__") (h : R v s) : wpAny (model prog w) A (eval (.Name x pos) env) R E s := by
  simp only [gl, Bool.and_eq_true, beq_iff_eq, Bool.not_eq_true'] at hx
  refine Name_function_global (by rw [EO.scope]; exact EO.kind) (by unfold Env.kindOf; rw [EO.scope]; exact hx.1) (loadGlobal_builtin (mg := mg) (mb := mb) ?_ (mg_none_of cx.kin cx.g hm) ?_ ((cx.bi x hn).trans hv) h) hx.2
  · rw [EO.glob]; exact cx.g.keeps S.stays
  · rw [EO.bi]; exact cx.b.keeps S.stays

theorem notStar {sc : Scope} {vars : List Str} {a : AE} {e : PySem.Expr} (h : okE sc vars a e = true) (r : List PySem.Expr) (env : Env) : starEach (reE a e :: r) env = (false, eval (reE a e) env) :: starEach r env := by
  cases a <;> rfl

noncomputable def TR (x : AV) (b : Bool) : Prop := x = .bool b ∨ ∃ c, x = .str c ∧ b = !c.isEmpty ∧ c.length ≤ big
noncomputable def Tb (x : AV) : Prop := ∃ b, TR x b
set_option tactic.hygienic true in
theorem truV.tb {x : AV} {Q : Bool → Prop} (h : truV x Q) : Tb x := by
  cases x <;> first | exact (show False from h).elim | skip
  case bool b => exact ⟨b, .inl rfl⟩
  case str c => exact ⟨_, .inr ⟨c, rfl, rfl, h.1⟩⟩
theorem truV.use {x : AV} {Q : Bool → Prop} {b : Bool} (h : truV x Q) (t : TR x b) : Q b := by
  rcases t with rfl | ⟨c, rfl, rfl, _⟩
  · exact h
  · exact h.2
theorem TR.tru {x : AV} {b : Bool} (t : TR x b) {Q : Bool → Prop} (h : Q b) : truV x Q := by
  rcases t with rfl | ⟨c, rfl, rfl, l⟩
  · exact h
  · exact ⟨l, h⟩

section
variable (prog w base os)
/-- an expression does what it says -/
noncomputable def EvAt (sc : Scope) (vars : List Str) (C : CallT) (n : Nat) (e : PySem.Expr) (a : AE) : Prop :=
  ∀ (A : Around) (env : Env) (outer : List Env) (L : Addr) (m : Str → Option Value) (frs : Frs) (σ : AH) (s : Shared) (ρ : List AV) (Q : VQ) (E : AH → Prop),
    EnvOK env sc L → Ok n A env outer L m frs → St prog w base ((L, m) :: frs) os σ s → LR vars ρ m → ewp C a ρ σ Q E →
    wpAny (model prog w) A (eval e env) (QQ prog w base ((L, m) :: frs) os Q) (XE prog w base L frs os E) s
/-- so does its test -/
noncomputable def TrAt (sc : Scope) (vars : List Str) (C : CallT) (n : Nat) (e : PySem.Expr) (a : AE) : Prop :=
  ∀ (A : Around) (env : Env) (outer : List Env) (L : Addr) (m : Str → Option Value) (frs : Frs) (σ : AH) (s : Shared) (ρ : List AV) (Q : VQ) (E : AH → Prop),
    EnvOK env sc L → Ok n A env outer L m frs → St prog w base ((L, m) :: frs) os σ s → LR vars ρ m → (∀ x σ, Q x σ → Tb x) → ewp C a ρ σ Q E →
    wpAny (model prog w) A (isTrue e env (eval e env)) (fun b s' => ∃ x σ', TR x b ∧ St prog w base ((L, m) :: frs) os σ' s' ∧ Q x σ') (XE prog w base L frs os E) s
end

theorem QQ.bind {frs : Frs} {Q : VQ} {R : Value → Shared → Prop} {t : Sem Value} {E : Value → Shared → Prop} (h : wpAny (model prog w) A t (QQ prog w base frs os Q) E s)
    (k : ∀ x σ' v s', VR x v → St prog w base frs os σ' s' → Q x σ' → R v s') : wpAny (model prog w) A t R E s :=
  wpAny_mono h (fun v s' ⟨x, σ', h1, h2, h3⟩ => k x σ' v s' h1 h2 h3) fun _ _ e => e

noncomputable def ewpL (C : CallT) : List AE → List AV → AH → (List AV → AH → Prop) → (AH → Prop) → Prop
  | [], _, σ, Q, _ => Q [] σ
  | a :: as, ρ, σ, Q, E => ewp C a ρ σ (fun x σ₁ => ewpL C as ρ σ₁ (fun xs σ₂ => Q (x :: xs) σ₂) E) E

set_option genInjectivity false in
/-- what stays while an expression is worked out -/
structure EX where
  prog : Program
  w : World
  base : Heap
  os : OsState
  K : Frag
  mg : Str → Option Value
  mb : Str → Option Value
  sc : Scope
  vars : List Str
  C : CallT
  n : Nat
  A : Around
  env : Env
  outer : List Env
  L : Addr
  m : Str → Option Value
  frs : Frs
  ρ : List AV
noncomputable abbrev EX.fs (X : EX) : Frs := (X.L, X.m) :: X.frs
noncomputable abbrev EX.S (X : EX) (σ : AH) (s : Shared) : Prop := St X.prog X.w X.base X.fs X.os σ s
noncomputable abbrev EX.q (X : EX) (Q : VQ) : Value → Shared → Prop := QQ X.prog X.w X.base X.fs X.os Q
noncomputable abbrev EX.x (X : EX) (E : AH → Prop) : Value → Shared → Prop := XE X.prog X.w X.base X.L X.frs X.os E
noncomputable abbrev EX.wp (X : EX) {α : Type} (t : Sem α) (R : α → Shared → Prop) (E : AH → Prop) (s : Shared) : Prop := wpAny (model X.prog X.w) X.A t R (X.x E) s
structure EX.Good (X : EX) : Prop where
  cx : Cx X.K X.base X.mg X.mb
  hC : CS X.prog X.w X.base X.os X.n X.C
  EO : EnvOK X.env X.sc X.L
  ok : Ok X.n X.A X.env X.outer X.L X.m X.frs
  lr : LR X.vars X.ρ X.m
noncomputable def EX.Ev (X : EX) (e : PySem.Expr) (a : AE) : Prop := ∀ (σ : AH) (s : Shared) (Q : VQ) (E : AH → Prop), X.S σ s → ewp X.C a X.ρ σ Q E → X.wp (eval e X.env) (X.q Q) E s
noncomputable def EX.Tp (X : EX) (Q : VQ) (b : Bool) (s : Shared) : Prop := ∃ x σ, TR x b ∧ X.S σ s ∧ Q x σ
noncomputable def EX.Tr (X : EX) (e : PySem.Expr) (a : AE) : Prop := ∀ (σ : AH) (s : Shared) (Q : VQ) (E : AH → Prop), X.S σ s → (∀ x σ, Q x σ → Tb x) → ewp X.C a X.ρ σ Q E → X.wp (isTrue e X.env (eval e X.env)) (X.Tp Q) E s
noncomputable def EX.Ok (X : EX) (e : PySem.Expr) (a : AE) : Prop := X.Ev e a ∧ X.Tr e a
noncomputable def plainT (e : PySem.Expr) : Prop := ∀ env whole, isTrue e env whole = (do let v ← whole; standAt e.pos; holding [v] (truthy v))
section
variable {X : EX} {E : AH → Prop}
theorem EX.bind {Q : VQ} {α : Type} {t : Sem Value} {u : Value → Sem α} {R : α → Shared → Prop} {s : Shared} (h : X.wp t (X.q Q) E s) (k : ∀ x σ' v s', VR x v → X.S σ' s' → Q x σ' → X.wp (u v) R E s') : X.wp t (fun v s' => X.wp (u v) R E s') E s :=
  wpAny_mono h (fun v s' ⟨x, σ', h1, h2, h3⟩ => k x σ' v s' h1 h2 h3) fun _ _ e => e
theorem EX.Ok.both {e : PySem.Expr} {a : AE} (he : plainT e) (H : X.Ev e a) : X.Ok e a := by
  refine ⟨H, fun σ s Q E S ht h => isTrue_plain ?_ (he _ _)⟩
  refine QQ.bind (H σ s Q E S h) fun x σ' v s' hv S' hq => ?_
  obtain ⟨b, t⟩ := ht x σ' hq
  exact tru_sound S' hv (t.tru (Q := fun c => c = b) rfl) fun c tk e' S'' => ⟨x, σ', e' ▸ t, S'', hq⟩

/-- the arguments, one by one -/
noncomputable def EX.El (X : EX) : List AE → List PySem.Expr → Prop
  | [], [] => True
  | a :: as, e :: es => (X.Ev e a ∧ ∀ r env, starEach (e :: r) env = (false, eval e env) :: starEach r env) ∧ X.El as es
  | _, _ => False

theorem EvL.plain {env : Env} {pos : Pos} : ∀ {as : List AE} {es : List PySem.Expr}, X.El as es → (backTo pos (starEach es env)).any (·.1) = false
  | [], [], _ => rfl
  | [], _ :: _, h => h.elim
  | _ :: _, [], h => h.elim
  | a :: as, e :: es, h => by
    rw [h.1.2]
    show (false || (backTo pos (starEach es env)).any (·.1)) = false
    rw [EvL.plain h.2]; rfl
noncomputable def EX.lp (X : EX) (k : Nat) (Q : List AV → AH → Prop) (vs : List Value) (s : Shared) : Prop := ∃ xs σ, (VRs xs vs ∧ xs.length = k) ∧ X.S σ s ∧ Q xs σ
theorem spl_sound {pos : Pos} : ∀ {as : List AE} {es : List PySem.Expr} {σ : AH} {s : Shared} {Q : List AV → AH → Prop}, X.El as es → X.S σ s → ewpL X.C as X.ρ σ Q E → X.wp (spliced (backTo pos (starEach es X.env))) (X.lp as.length Q) E s
  | [], [], _, _, _, _, S, h => spliced_none ⟨[], _, ⟨trivial, rfl⟩, S, h⟩
  | [], _ :: _, _, _, _, h, _, _ => h.elim
  | _ :: _, [], _, _, _, h, _, _ => h.elim
  | a :: as, e :: es, σ, s, Q, H, S, h => by
    refine spliced_more (QQ.bind (H.1.1 σ s _ E S h) fun x σ₁ v s₁ hv S₁ h' => ?_) (H.1.2 _ _)
    exact wpAny_mono (spl_sound H.2 S₁ h') (fun vs s' ⟨xs, σ', h1, h2, h3⟩ => ⟨x :: xs, σ', ⟨⟨hv, h1.1⟩, congrArg (· + 1) h1.2⟩, h2, h3⟩) fun _ _ e => e
end

theorem newTup_sound {frs : Frs} {xs : List AV} {vs : List Value} {Q : VQ} {E : Value → Shared → Prop} (S : St prog w base frs os σ s) (hv : VRs xs vs) (hl : xs.length ≤ 16) (h : newO σ (.tup xs) Q) :
    wpAny (model prog w) A (newTuple vs) (QQ prog w base frs os Q) E s := by
  have hl' := hv.length
  exact wpAny_newObj_type (S.newTup (k := s.toks) (vs := vs.toArray) (by simpa using hv) h) (by show vs.toArray.size ≤ sizeLine; rw [List.size_toArray, sizeLine_eq]; omega)
theorem newList_sound {frs : Frs} {xs : List AV} {vs : List Value} {Q : VQ} {E : Value → Shared → Prop} (S : St prog w base frs os σ s) (hv : VRs xs vs) (hl : xs.length ≤ 16) (h : newO σ (.list xs) Q) :
    wpAny (model prog w) A (newList vs) (QQ prog w base frs os Q) E s := by
  have hl' := hv.length
  exact wpAny_newObj_type (S.newList (k := s.toks) (vs := vs.toArray) (by simpa using hv) h) (by show vs.toArray.size ≤ sizeLine; rw [List.size_toArray, sizeLine_eq]; omega)

noncomputable def cadr : Nat → Addr | 0 => cSUM | _ => cPIECE

theorem mk_sound {n : Nat} {A : Around} {env : Env} {outer : List Env} {L : Addr} {m : Str → Option Value} {frs : Frs} {c : Nat} {x y z : AV} {vx vy vz : Value} {Q : VQ} {E : Value → Shared → Prop} (cx : Cx K base mg mb) (ok : Ok n A env outer L m frs)
    (S : St prog w base ((L, m) :: frs) os σ s) (hx : VR x vx) (hy : VR y vy) (hz : VR z vz) (h : mkV c x y z σ Q) : wpAny (model prog w) A (call (.ref (cadr c)) [vx, vy, vz]) (QQ prog w base ((L, m) :: frs) os Q) E s := by
  have X := cx.kin.keeps S.stays
  have hl : s.heap.NoLimit := let ⟨mc, h1, h2⟩ := cx.lim; ⟨mc, h1.keeps S.stays, h2⟩
  have hr : A.depth + 2 < recursionLimit := by have := ok.dep; omega
  have piece : ∀ (k t : List Nat) (v : AV) (ux uy uz : Value), VR (.str k) ux → VR (.str t) uy → VR v uz → newO σ (.piece k t v) Q → wpAny (model prog w) A (call (.ref cPIECE) [ux, uy, uz]) (QQ prog w base ((L, m) :: frs) os Q) E s := by
    intro k t v ux uy uz h1 h2 h3 h
    refine mk3 X cx.kf.mkP hr hl fun h' tk a d es n hk ha hd ha' hd' ⟨_, g1, e1⟩ ⟨_, g2, e2⟩ ⟨_, g3, e3⟩ _ => ?_
    obtain ⟨f1, f2, _⟩ := S.free ha
    subst e1 e2 e3
    exact ⟨.ref a, _, rfl, S.new (o := .piece k t v) h' tk hk ⟨f2, d, es, n, ha', hd', (S.free hd).2.1, ⟨_, g1, h1⟩, ⟨_, g2, h2⟩, ⟨_, g3, h3⟩⟩, h a f1⟩
  have sum : ∀ (k t : List Nat) (v : Int) (ux uy uz : Value), VR (.str k) ux → VR (.str t) uy → VR (.int v) uz → newO σ (.sum k t v) Q → wpAny (model prog w) A (call (.ref cSUM) [ux, uy, uz]) (QQ prog w base ((L, m) :: frs) os Q) E s := by
    intro k t v ux uy uz h1 h2 h3 h
    refine mk3 X cx.kf.mkS hr hl fun h' tk a d es n hk ha hd ha' hd' ⟨_, g1, e1⟩ ⟨_, g2, e2⟩ ⟨_, g3, e3⟩ g4 => ?_
    obtain ⟨f1, f2, _⟩ := S.free ha
    subst e1 e2 e3
    exact ⟨.ref a, _, rfl, S.new (o := .sum k t v) h' tk hk ⟨f2, d, es, n, ha', hd', (S.free hd).2.1, ⟨_, g1, h1⟩, ⟨_, g2, h2⟩, ⟨_, g3, h3⟩, g4 _ (by decide) (by decide) (by decide)⟩, h a f1⟩
  cases c with
  | zero => obtain ⟨_, _, _, rfl, rfl, rfl, h⟩ := h; exact sum _ _ _ _ _ _ hx hy hz h
  | succ c => cases c with
    | zero => obtain ⟨_, _, rfl, rfl, h⟩ := h; exact piece _ _ _ _ _ _ hx hy hz h.2
    | succ c => exact h.elim

noncomputable def dD (l : List (List Nat × Int)) : List (PyData × PyData) := l.map fun p => (.str ⟨p.1.toArray⟩, .int p.2)

theorem pairs_lits {l : List (List Nat × Int)} {ks : List (Option PySem.Expr)} {vs : List PySem.Expr} (h : PairsR l ks vs) : litPairs ks vs = some (dD l) ∧ ks.all (·.isSome) = true ∧ ks.length = l.length ∧ vs.length = l.length := by
  induction h with
  | nil => exact ⟨rfl, rfl, rfl, rfl⟩
  | cons _ ih =>
    obtain ⟨a, b, c, d⟩ := ih
    exact ⟨show ((litPairs _ _).bind fun q => some (_ :: q)) = _ by rw [a]; rfl, b, congrArg (· + 1) c, congrArg (· + 1) d⟩

theorem dD_str : ∀ l : List (List Nat × Int), strKeyed (dD l) = true
  | [] => rfl
  | _ :: l => dD_str l
theorem dD_keys : ∀ l : List (List Nat × Int), strKeysOf (dD l) = (l.map (·.1)).map fun x => ⟨x.toArray⟩
  | [] => rfl
  | (k, _) :: l => congrArg (_ :: ·) (dD_keys l)
theorem dr_flat : ∀ {l : List (List Nat × Int)} {kvs : List (Str × Value)}, PyProof.V.FlatPairs PyData.str kvs (dD l) → DR l kvs
  | [], [], _ => trivial
  | [], _ :: _, h => by cases h
  | _ :: _, [], h => by cases h
  | (k, n) :: l, (x, v) :: r, h => by
    cases h with
    | cons fv h => obtain ⟨t, rfl⟩ := fv.int_inv; exact ⟨rfl, ⟨t, rfl⟩, dr_flat h⟩

theorem dict_sound {n : Nat} {A : Around} {env : Env} {outer : List Env} {L : Addr} {m : Str → Option Value} {frs : Frs} {l : List (List Nat × Int)} {ks : List (Option PySem.Expr)} {vs : List PySem.Expr} {pos : Pos} {Q : VQ} {E : Value → Shared → Prop} (cx : Cx K base mg mb) (ok : Ok n A env outer L m frs)
    (S : St prog w base ((L, m) :: frs) os σ s) (hc : PairsR l ks vs) (h0 : 0 < l.length) (h1 : l.length ≤ 15) (h2 : (l.map (·.1)).Nodup) (h : newO σ (.dict l) Q) : wpAny (model prog w) A (eval (.Dict ks vs pos) env) (QQ prog w base ((L, m) :: frs) os Q) E s := by
  obtain ⟨a1, a2, a3, a4⟩ := pairs_lits hc
  have hbig : sysModules < s.heap.objs.size := modules_low (let ⟨mc, h1, h2⟩ := cx.lim; ⟨mc, h1.keeps S.stays, h2⟩)
  refine Dict_lits_str a1 (dD_str l) ?_ a2 (a3.trans a4.symm) (by intro e; rw [e] at a3; simp at a3; omega) (by omega) fun a o h₁ tk hle ho ⟨kvs, hd, hf⟩ hk => ?_
  · rw [dD_keys]
    exact List.Pairwise.map _ (fun x y hxy e => hxy (by injection e with e; simpa using congrArg Array.toList e)) h2
  · obtain ⟨f1, f2, f3⟩ := S.free (Heap.get?_none_of_le hle)
    exact ⟨.ref a, _, rfl, S.new (o := .dict l) h₁ tk hk ⟨f2, beq_eq_false_iff_ne.mpr (Nat.ne_of_gt (Nat.lt_of_lt_of_le hbig hle)), kvs, Heap.dictOf_iff.mpr ⟨o, ho, hd⟩, dr_flat hf⟩, h a f1⟩

theorem paired_ints : ∀ {vs : List Value} {ns : List Int} {ys : List Value}, IntsAre vs ns → Paired (fun v y => ∃ i t u, v = Value.int i t ∧ y = .int (i.fmod 2147483647) u) vs ys → IntsAre ys (ns.map fun i => i.fmod 2147483647)
  | _, [], ys, h, p => by
    have := h.nil_inv
    subst this
    cases p; exact .nil
  | _, n :: ns, ys, h, p => by
    obtain ⟨t, vs', rfl, h'⟩ := h.cons_inv
    cases p with
    | cons a b =>
      obtain ⟨i, t', u, e, rfl⟩ := a
      cases e
      exact .cons _ _ (paired_ints h' b)

theorem fmod_elt {prog : Program} {w : World} {A : Around} {E : Value → Shared → Prop} {env : Env} {s : Shared} {scope : Scope} {C : Addr} {m : Str → Option Value} {i : Int} {t : Tok} {p1 p2 p3 : Pos} {k2 : _} (hk : scope.kind = .function) (hx : scope.names.lookup ("number" : Str) = some .local)
    (hn : s.heap.Ns C m) (hm : m "number" = some (.int i t)) : wpAny (model prog w) A (eval (.BinOp (.Name "number" p1) .Mod (.Constant (.int 2147483647) k2 p2) p3) (compEnv scope C env)) (fun y s' => (∃ u, y = .int (i.fmod 2147483647) u) ∧ Keeps s s') E s := by
  refine wpAny_BinOp (wpAny_Name (wpAny_loadName_local (by exact hk) (by exact hx) hn hm ?_) (by decide))
  refine wpAny_Constant_int ?_
  exact PyProof.Rows.mod_int' (by decide) ⟨⟨_, rfl⟩, _, _, rfl, fun b o e => e⟩

theorem comp_sound {n : Nat} {A : Around} {env : Env} {outer : List Env} {L : Addr} {m : Str → Option Value} {frs : Frs} {sc scope : Scope} {p1 p2 p3 p4 p5 p6 p7 p8 pos : Pos} {k2 k6 : Nat} {Q : VQ} {E : Value → Shared → Prop} (EO : EnvOK env sc L) (ok : Ok n A env outer L m frs)
    (S : St prog w base ((L, m) :: frs) os σ s) (hk : scope.kind = .function) (hnames : scope.names = [((".0" : Str), .local), (("number" : Str), .local)]) (hg : scope.isGenerator = false) (hco : scope.isCoroutine = false) (hs : sc.names.lookup ("script" : Str) = some .local) {a : Addr} {xs : List Int} (hm : m "script" = some (.ref a)) (ha : σ a = some (.ro xs)) (hlen : xs.length ≤ 1000)
    (h : newO σ (.ro ((xs.take 40).map fun i => i.fmod 2147483647)) Q) : wpAny (model prog w) A (eval (.ListComp (.BinOp (.Name "number" p1) .Mod (.Constant (.int 2147483647) k2 p2) p3) [⟨.Name "number" p4, .Subscript (.Name "script" p5) (.Slice Option.none (some (.Constant (.int 40) k6 p6)) Option.none p7) p8, [], 0⟩] scope pos) env) (QQ prog w base ((L, m) :: frs) os Q) E s := by
  obtain ⟨_, vs, q1, q2⟩ := S.ob _ _ ha
  have hx : scope.names.lookup ("number" : Str) = some .local := by rw [hnames]; rfl
  have all : ∀ y ∈ scope.names, y = ((".0" : Str), NameKind.local) ∨ y = (("number" : Str), NameKind.local) := fun y hy => by rw [hnames] at hy; simpa using hy
  have hl := q2.length
  refine wpAny_ListComp_map (fun _ => true) (fun v y => ∃ i t u, v = .int i t ∧ y = .int (i.fmod 2147483647) u) ok.hh (fun y hy => by rcases all y hy with rfl | rfl <;> decide) (fun y hy => by rcases all y hy with rfl | rfl <;> decide) hk
    (fun y hy _ => by rw [hnames]; rcases all y hy with rfl | rfl <;> rfl) hx ?_
  refine PyProof.Rows.Subscript_ (ldL (n := n) (outer := outer) EO S hs (by decide) hm ?_)
  refine wpAny_Slice (wpAny_pure (wpAny_Constant_int (k := k6) (pos := p6) (wpAny_pure ?_)))
  have hl' : (vs.toArray).size ≤ sizeLine := by rw [List.size_toArray, hl, sizeLine_eq]; omega
  have ql : s.heap.IsList a vs.toArray := q1
  have hpush : ∀ o, (s.heap.push o).IsList a vs.toArray := fun o => ql.push o
  refine PyProof.Rows.subscriptTail_ops (T := "list") (Heap.IsList.typeIs (s := { s with heap := s.heap.push _, toks := _ }) (hpush _)) list_getitem_lookup
    (wpAny_getItem_list_slice (lo := none) (hi := some 40) (st := none) (hpush _) (Heap.IsSliceOf.new ..) .none (.int _ _) .none (by simp) ?_ hl') (by with_unfolding_all rfl) (by intro _; with_unfolding_all rfl)
  have hpick : slicePick vs.toArray none (some 40) none = (vs.take 40).toArray := by simpa using slicePick_upto' vs.toArray 40
  rw [hpick]
  refine ⟨_, (vs.take 40).toArray, rfl, ⟨_, Heap.get?_push_size _ rfl, rfl, _, rfl⟩, by rw [List.size_toArray, List.length_take, sizeLine_eq]; omega, ?_, ?_, ?_⟩
  · intro C v s₂ m₂ E' _ _ _ _
    exact wpAny_pure ⟨rfl, _, _, rfl, fun b o e => e⟩
  · intro C v s₂ m₂ E' hv _ hn hm' _
    obtain ⟨i, t, rfl⟩ := (q2.take 40).all v (by simpa using hv)
    exact wpAny_mono (fmod_elt hk hx hn hm') (fun y s₃ ⟨⟨u, hy⟩, kp⟩ => ⟨⟨i, t, u, rfl, hy⟩, kp⟩) fun _ _ x => x
  · intro D h' tk ys hnew hlD hF hkp
    have k0 : ∀ b o, s.heap.get? b = some o → h'.get? b = some o := fun b o e => hkp b o (Heap.get?_push_of_some _ (Heap.get?_push_of_some _ e))
    have hD : s.heap.get? D = none := by
      cases q : s.heap.get? D with
      | none => rfl
      | some o => rw [Heap.get?_push_of_some _ (Heap.get?_push_of_some _ q)] at hnew; cases hnew
    obtain ⟨f1, f2, f3⟩ := S.free hD
    refine ⟨.ref D, _, rfl, S.new (o := .ro _) h' tk k0 ⟨f2, ys.toList, by rw [Array.toArray_toList]; exact hlD, ?_⟩, h D f1⟩
    have ft : List.filter (fun _ => true) (vs.take 40).toArray.toList = vs.take 40 := List.filter_eq_self.mpr fun _ _ => rfl
    rw [ft] at hF
    exact paired_ints (q2.take 40) hF

theorem ints_sound {X : EX} {l : List Int} {es : List PySem.Expr} (h : IntsR l es) : X.El (l.map .int) es := by
  induction h with
  | nil => trivial
  | cons _ ih => exact ⟨⟨fun σ s Q E S h => wpAny_Constant_int (S.same _ h ⟨_, rfl⟩), fun _ _ => rfl⟩, ih⟩

theorem ewpL_ints (C : CallT) (ρ : List AV) (E : AH → Prop) : ∀ (l : List Int) (σ : AH) (Q : List AV → AH → Prop), Q (l.map .int) σ → ewpL C (l.map .int) ρ σ Q E
  | [], _, _, h => h
  | i :: l, σ, Q, h => ewpL_ints C ρ E l σ (fun xs σ₂ => Q (.int i :: xs) σ₂) h

theorem call_args {X : EX} (g : X.Good) {Q : VQ} {E : AH → Prop} {pos : Pos} {a : AE} {as : List AE} {e : PySem.Expr} {es : List PySem.Expr} {f : Addr} {s : Shared} {σ : AH}
    (hk : keepIn X.K (.ref f) = true) (H : X.El (a :: as) (e :: es)) (S : X.S σ s) {R : List AV → AH → Prop}
    (h : ewpL X.C (a :: as) X.ρ σ R E) (k : ∀ xs vs σ' s', VRs xs vs → X.S σ' s' → R xs σ' → X.wp (call (.ref f) vs) (X.q Q) E s') :
    X.wp (callWith pos (.ref f) [] (backTo pos (starEach (e :: es) X.env)) []) (X.q Q) E s := by
  refine callWith_K g.cx.kin hk (wpAny_mono (spl_sound H S h) (fun vs s' ⟨xs, σ', h1, h2, h3⟩ => ⟨g.cx.kin.keeps h2.stays, k xs vs σ' s' h1.1 h2 h3⟩) fun _ _ e => e) (H.1.2 _ _) (EvL.plain H.2)
theorem call_fn {X : EX} (g : X.Good) {Q : VQ} {E : AH → Prop} {x : Str} {np pos : Pos} {a : AE} {as : List AE} {e : PySem.Expr} {es : List PySem.Expr} {f : Nat} {s : Shared} {σ : AH}
    (g1 : fnOk f x = true) (g2 : gl X.sc x = true) (H : X.El (a :: as) (e :: es)) (S : X.S σ s) (h : ewpL X.C (a :: as) X.ρ σ (fun xs σ' => X.C f xs σ' Q E) E) : X.wp (eval (.Call (.Name x np) (e :: es) [] pos) X.env) (X.q Q) E s := by
  obtain ⟨k1, k2⟩ := g.cx.kf.fn f x g1
  refine Call_ (ldG g.cx g.EO S g2 k1 ?_)
  exact call_args g k2 H S h fun xs vs σ' s' hv S' hq => wpAny_mono (g.hC f xs σ' Q E X.A s' X.env X.outer X.L X.m X.frs vs g.ok S' hv hq) (fun _ _ q => q) fun _ _ q => q.toXE
theorem isNm_inv {e : PySem.Expr} (h : isNm e = true) : ∃ x p, e = .Name x p := by
  cases e <;> first | exact (Bool.false_ne_true h).elim | exact ⟨_, _, rfl⟩
theorem isSl_inv {e : PySem.Expr} (h : (!isSl e) = true) : (match (generalizing := false) e with | .Slice .. => false | _ => true) = true := by
  cases e <;> first | rfl | exact (Bool.false_ne_true h).elim
theorem EX.tup {X : EX} {a : AE} {as : List AE} {es : List PySem.Expr} {k : Nat} {p : Pos} (H : X.El as es) (hl : as.length ≤ 16) (hw : ∀ σ Q E, ewp X.C a X.ρ σ Q E → ewpL X.C as X.ρ σ (fun xs σ' => newO σ' (.tup xs) Q) E) : X.Ok (.Tuple es k p) a :=
  .both (fun _ _ => rfl) fun σ s Q E S h => PyProof.Rows.Tuple_ (wpAny_mono (spl_sound H S (hw σ Q E h)) (fun vs s' ⟨xs, σ', h1, h2, h3⟩ => newTup_sound h2 h1.1 (by rw [h1.2]; exact hl) h3) fun _ _ e => e)
theorem EX.lst {X : EX} {a : AE} {as : List AE} {es : List PySem.Expr} {p : Pos} (H : X.El as es) (hl : as.length ≤ 16) (hw : ∀ σ Q E, ewp X.C a X.ρ σ Q E → ewpL X.C as X.ρ σ (fun xs σ' => newO σ' (.list xs) Q) E) : X.Ok (.List es p) a :=
  .both (fun _ _ => rfl) fun σ s Q E S h => PyProof.Rows.List_ (wpAny_mono (spl_sound H S (hw σ Q E h)) (fun vs s' ⟨xs, σ', h1, h2, h3⟩ => newList_sound h2 h1.1 (by rw [h1.2]; exact hl) h3) fun _ _ e => e)

theorem mcall_eq {o : PySem.Expr} {name : Str} {apos pos : Pos} {args : List PySem.Expr} {env : Env} (h1 : notCall o = true) (h2 : (apos.endLine == pos.line) = true) (h3 : methodCallForm args.length (backTo pos (starEach args env)) [] = true) :
    eval (.Call (.Attribute o name apos) args [] pos) env = (do
      let ov ← eval o env
      standAt apos.atName
      let (f, first) ← holding [ov] (getMethod ov name (do return (← importBound o env).getD true))
      callWith pos f first (backTo pos (starEach args env)) []) := by
  have e1 : attributeBase o name env (eval o env) = eval o env := by cases o <;> first | rfl | cases h1
  have e2 : methodCallPos true o env apos pos = pure pos := by unfold methodCallPos; simp [h2]
  show (do
    let ov ← attributeBase o name env (eval o env)
    standAt apos.atName
    methodCall o name apos pos env ov (args.length + 0) (backTo pos (starEach args env)) []) = _
  rw [e1]
  unfold methodCall
  rw [Nat.add_zero, h3, e2]
  rfl

theorem part_inv {y : AV} {v : Value} {i : Option Int} (hy : VR y v) (e : optI y = some i) : ∃ p, v = partValue p ∧ p.map (·.1) = i := by
  cases y <;> first | cases e; done | skip
  · cases e; cases hy; exact ⟨none, rfl, rfl⟩
  · cases e; obtain ⟨t, rfl⟩ := hy; exact ⟨some (_, t), rfl, rfl⟩
set_option tactic.hygienic true in
theorem cut_sound {frs : Frs} {E : Value → Shared → Prop} {Q : VQ} {x y z : AV} {vx vy vz : Value} {value : PySem.Expr} {lo hi : Option PySem.Expr} {q : Pos} (S₃ : St prog w base frs os σ s) (hx : VR x vx) (hy : VR y vy) (hz : VR z vz) (h3 : slcV x y z σ Q) :
    wpAny (model prog w) A (subscriptTail value (.Slice lo hi Option.none q) vx (.ref s.heap.objs.size)) (QQ prog w base frs os Q) E { s with heap := s.heap.push { cls := .type "slice", data := .fields #[vy, vz, .none] } } := by
  have S₄ := S₃.grow (s.heap.push { cls := .type "slice", data := .fields #[vy, vz, .none] }) s.toks (fun b o e => Heap.get?_push_of_some _ e)
  cases x <;> first | exact (show False from h3).elim | skip
  case str c =>
    obtain ⟨t, rfl⟩ := hx
    obtain ⟨i, j, e1, e2, hb, hq⟩ := h3
    obtain ⟨py, rfl, rfl⟩ := part_inv hy e1
    obtain ⟨pz, rfl, rfl⟩ := part_inv hz e2
    exact slcStr_sound S₄ ⟨_, Heap.get?_push_size _ rfl, rfl, rfl⟩ hb hq
  case ref t =>
    cases hx
    obtain ⟨xs, e, rfl, rfl, h5, h6⟩ := h3
    cases hy
    obtain ⟨tk, rfl⟩ := hz
    exact slcTup_sound S₄ (Heap.IsSliceOf.new ..) e h5 h6
theorem mk_fn (kf : KF K) {c : Nat} {x : Str} (g1 : cnmL[c]? = some x) : nsIn K mainGlobals x = some (some (.ref (cadr c))) ∧ keepIn K (.ref (cadr c)) = true := by
  cases c with
  | zero => cases g1; exact ⟨kf.cls.1, kf.cls.2.1⟩
  | succ c => cases c with
    | zero => cases g1; exact ⟨kf.cls.2.2.1, kf.cls.2.2.2.1⟩
    | succ c => cases g1
theorem b1_facts (f : B1) : b1nm f ∈ (["len", "abs", "chr", "ord", "bytes", "bytearray", "zip", "range"] : List Str) ∧ bootBuiltins (b1nm f) = some (b1val f) ∧ b1nm f ≠ "__name__" := by
  cases f <;> decide +kernel
noncomputable def mkL (c : Nat) (Q : VQ) (xs : List AV) (σ : AH) : Prop := match xs with | [x, y, z] => mkV c x y z σ Q | _ => False
noncomputable def b1L (f : B1) (Q : VQ) (xs : List AV) (σ : AH) : Prop := match xs with | [x] => b1V f x σ Q | _ => False
noncomputable def m1L (f : MK) (x : AV) (Q : VQ) (xs : List AV) (σ : AH) : Prop := match xs with | [y] => m1V f x y σ Q | _ => False
theorem ev_snd {X : EX} (g : X.Good) (a : AE) : ∀ e, okE X.sc X.vars a e = true → X.Ok (reE a e) a := by
  have cs : ∀ (o : COp) (x y : AV) (vx vy : Value) (σ : AH) (s : Shared) (Q : VQ) (E : AH → Prop), X.S σ s → VR x vx → VR y vy → cmpV o x y σ Q → X.wp (compareOp (cmpOf o) vx vy) (X.q Q) E s :=
    fun o x y vx vy σ s Q E S hx hy h => cmp_sound o S (by have := g.ok.un; omega) hx hy h
  have sp : ∀ {b e}, okE X.sc X.vars b e = true → X.Ok (reE b e) b → (X.Ev (reE b e) b ∧ ∀ r env, starEach (reE b e :: r) env = (false, eval (reE b e) env) :: starEach r env) := fun h i => ⟨i.1, notStar h⟩
  induction a with
  | loc i =>
    refine fun e h => and3 h fun h1 h2 h3 => .both (fun _ _ => rfl) fun σ s Q E S h => ?_
    obtain ⟨hu, hq⟩ := h
    have hr : X.ρ[i]? = some (X.ρ.getD i .unb) := by
      cases q : X.ρ[i]? with
      | none => exfalso; exact hu (by simp [List.getD, q])
      | some v => simp [List.getD, q]
    obtain ⟨u, e1, e2⟩ := g.lr.2 i _ _ (beq_iff_eq.mp h1) hr hu
    exact ldL (n := X.n) (outer := X.outer) g.EO S (beq_iff_eq.mp h2) (not1 h3) e1 (S.same0 hq e2)
  | gv k =>
    refine fun e h => .both (fun _ _ => rfl) fun σ s Q E S h' => ?_
    obtain ⟨v, h1, h2⟩ := g.cx.kf.gv _ _ (beq_iff_eq.mp (and2 h).1)
    exact ldG g.cx g.EO S (and2 h).2 h1 (S.same0 h' h2)
  | int i => exact fun e _ => .both (fun _ _ => rfl) fun σ s Q E S h => wpAny_Constant_int (S.same _ h ⟨_, rfl⟩)
  | str t => exact fun e _ => .both (fun _ _ => rfl) fun σ s Q E S h => wpAny_Constant_str (S.same _ h ⟨_, rfl⟩)
  | bool b => exact fun e _ => .both (fun _ _ => rfl) fun σ s Q E S h => wpAny_Constant_bool (S.same0 h rfl)
  | none => exact fun e _ => .both (fun _ _ => rfl) fun σ s Q E S h => wpAny_Constant_none (S.same0 h rfl)
  | bin o a b iha ihb =>
    exact fun e h => .both (fun _ _ => rfl) fun σ s Q E S h' => wpAny_BinOp (QQ.bind ((iha _ (and2 h).1).1 σ s _ E S h') fun x σ₁ v s₁ hv S₁ h₁ =>
      QQ.bind ((ihb _ (and2 h).2).1 σ₁ s₁ _ E S₁ h₁) fun y σ₂ u s₂ hu S₂ h₂ => bin_sound o S₂ hv hu h₂)
  | neg a iha =>
    refine fun e h => .both (fun _ _ => rfl) fun σ s Q E S h' => PyProof.Rows.UnaryOp_ (QQ.bind ((iha _ h).1 σ s _ E S h') fun x σ₁ v s₁ hv S₁ h₁ => ?_)
    obtain ⟨i, rfl, h₁⟩ := h₁
    obtain ⟨t, rfl⟩ := hv
    exact PyProof.Rows.neg_int (S₁.same _ h₁ ⟨_, rfl⟩)
  | not a iha =>
    refine fun e h => ⟨fun σ s Q E S h' => PyProof.Rows.UnaryOp_ (QQ.bind ((iha _ h).1 σ s _ E S h') fun x σ₁ v s₁ hv S₁ h₁ => not_of (tru_sound S₁ hv h₁ fun b tk q S₂ => S₂.same0 q rfl)), fun σ s Q E S ht h' => ?_⟩
    exact isTrue_not (wpAny_mono ((iha _ h).2 σ s _ E S (fun x σ q => truV.tb q) h') (fun b s' ⟨y, σ', t, S', q⟩ => ⟨.bool (!b), σ', .inl rfl, S', q.use t⟩) fun _ _ e => e)
  | cmp o a b iha ihb =>
    refine fun e h => and3 h fun h1 h2 h3 => ?_
    have hcm : ∀ σ s (Q : VQ) E, X.S σ s → ewp X.C (.cmp o a b) X.ρ σ Q E → X.wp (eval (reE a (kid e 0)) X.env) (fun a s₁ => X.wp (eval (reE b (kid e 1)) X.env) (fun b s₂ => X.wp (compareOp (cmpOf o) a b) (X.q Q) E s₂) E s₁) E s :=
      fun σ s Q E S h => QQ.bind ((iha _ h1).1 σ s _ E S h) fun x σ₁ v s₁ hv S₁ h' => QQ.bind ((ihb _ h2).1 σ₁ s₁ _ E S₁ h') fun y σ₂ u s₂ hu S₂ h'' => cs o _ _ _ _ _ _ _ _ S₂ hv hu h''
    refine ⟨fun σ s Q E S h => wpAny_Compare1 (hcm σ s Q E S h) (not1 h3), fun σ s Q E S ht h => ?_⟩
    refine wpAny_isTrue_Compare1 (wpAny_mono (hcm σ s Q E S h) (fun v s₁ h₁ => wpAny_mono h₁ (fun u s₂ h₂ => QQ.bind h₂ fun x σ' v s' hv S' hq => ?_) fun _ _ e => e) fun _ _ e => e) (not1 h3)
    obtain ⟨b, t⟩ := ht x σ' hq
    exact tru_sound S' hv (t.tru (Q := fun c => c = b) rfl) fun c tk e' S'' => ⟨x, σ', e' ▸ t, S'', hq⟩
  | chain a o b o' c iha ihb ihc =>
    refine fun e h => and4 h fun h1 h2 h3 h4 => ⟨fun σ s Q E S h => ?_, fun σ s Q E S ht h => ?_⟩
    · refine PyProof.Rows.Compare_chain (QQ.bind ((iha _ h1).1 σ s _ E S h) fun x σ₁ v s₁ hv S₁ h' => ?_) (by simpa [lastMarks] using not1 h4)
      refine PyProof.Rows.chain_link (QQ.bind ((ihb _ h2).1 σ₁ s₁ _ E S₁ h') fun y σ₂ u s₂ hu' S₂ h'' => ?_)
      refine QQ.bind (cs o _ _ _ _ _ _ _ _ S₂ hv hu' h'') fun z σ₃ k s₃ hk S₃ h3' => tru_sound S₃ hk h3' fun g tk hg S₄ => ?_
      cases g with
      | false => exact S₄.same0 hg hk
      | true => exact PyProof.Rows.chain_last (QQ.bind ((ihc _ h3).1 σ₃ _ _ E S₄ hg) fun z' σ₅ k' s₅ hk' S₅ h5 => cs o' _ _ _ _ _ _ _ _ S₅ hu' hk' h5)
    · refine PyProof.Rows.isTrue_chain (QQ.bind ((iha _ h1).1 σ s _ E S h) fun x σ₁ v s₁ hv S₁ h' => ?_) (by simpa [lastMarks] using not1 h4)
      refine PyProof.Rows.test_link (QQ.bind ((ihb _ h2).1 σ₁ s₁ _ E S₁ h') fun y σ₂ u s₂ hu' S₂ h'' => ?_)
      refine QQ.bind (cs o _ _ _ _ _ _ _ _ S₂ hv hu' h'') fun z σ₃ k s₃ hk S₃ h3' => ?_
      obtain ⟨b0, t0⟩ := truV.tb h3'
      refine tru_sound S₃ hk (t0.tru (Q := fun c => c = b0) rfl) fun g tk e' S₄ => ?_
      subst e'
      have hg := h3'.use t0
      cases g with
      | false => exact ⟨z, σ₃, t0, S₄, hg⟩
      | true =>
        refine PyProof.Rows.test_last (QQ.bind ((ihc _ h3).1 σ₃ _ _ E S₄ hg) fun z' σ₅ k' s₅ hk' S₅ h5 => QQ.bind (cs o' _ _ _ _ _ _ _ _ S₅ hu' hk' h5) fun x6 σ₆ v6 s₆ hv6 S₆ hq => ?_)
        obtain ⟨b, t⟩ := ht x6 σ₆ hq
        exact tru_sound S₆ hv6 (t.tru (Q := fun c => c = b) rfl) fun c tk e' S'' => ⟨x6, σ₆, e' ▸ t, S'', hq⟩
  | and a b iha ihb =>
    refine fun e h => and3 h fun h1 h2 h3 => ?_
    have i2 := ihb _ h2
    obtain ⟨y, r, e1, e2⟩ := tl_inv h3
    have hB : X.Ok (.BoolOp .And (y :: r) e.pos) b := by
      rw [e2] at i2
      cases r with
      | nil =>
        refine ⟨fun σ s Q E S h => BoolOp_one (i2.1 σ s Q E S h), fun σ s Q E S ht h => isTrue_and (wpAny_mono (i2.2 σ s Q E S ht h) (fun c s' q => ?_) fun _ _ e => e)⟩
        cases c with
        | false => exact q
        | true => exact isTrue_and_nil q
      | cons z r => exact i2
    show X.Ok (.BoolOp .And (reE a (kid e 0) :: tlX (kids e).tail (reE b (tlB .And e))) e.pos) (.and a b)
    rw [e1]
    refine ⟨fun σ s Q E S h => PyProof.Rows.BoolOp_and (QQ.bind ((iha _ h1).1 σ s _ E S h) fun x σ₁ v s₁ hv S₁ h' => tru_sound S₁ hv h' fun g tk hg S₂ => ?_), fun σ s Q E S ht h => ?_⟩
    · cases g with
      | false => exact S₂.same0 hg hv
      | true => exact hB.1 σ₁ _ Q E S₂ hg
    · refine isTrue_and (wpAny_mono ((iha _ h1).2 σ s _ E S (fun x σ q => truV.tb q) h) (fun c s' ⟨x, σ₁, t, S₁, q⟩ => ?_) fun _ _ e => e)
      have q' := q.use t
      cases c with
      | false => exact ⟨x, σ₁, t, S₁, q'⟩
      | true => exact hB.2 σ₁ _ Q E S₁ ht q'
  | or a b iha ihb =>
    refine fun e h => and3 h fun h1 h2 h3 => ?_
    have i2 := ihb _ h2
    obtain ⟨y, r, e1, e2⟩ := tl_inv h3
    have hB : X.Ok (.BoolOp .Or (y :: r) e.pos) b := by
      rw [e2] at i2
      cases r with
      | nil =>
        refine ⟨fun σ s Q E S h => BoolOp_one (i2.1 σ s Q E S h), fun σ s Q E S ht h => isTrue_or (wpAny_mono (i2.2 σ s Q E S ht h) (fun c s' q => ?_) fun _ _ e => e)⟩
        cases c with
        | false => exact isTrue_or_nil q
        | true => exact q
      | cons z r => exact i2
    show X.Ok (.BoolOp .Or (reE a (kid e 0) :: tlX (kids e).tail (reE b (tlB .Or e))) e.pos) (.or a b)
    rw [e1]
    refine ⟨fun σ s Q E S h => PyProof.Rows.BoolOp_or (QQ.bind ((iha _ h1).1 σ s _ E S h) fun x σ₁ v s₁ hv S₁ h' => tru_sound S₁ hv h' fun g tk hg S₂ => ?_), fun σ s Q E S ht h => ?_⟩
    · cases g with
      | true => exact S₂.same0 hg hv
      | false => exact hB.1 σ₁ _ Q E S₂ hg
    · refine isTrue_or (wpAny_mono ((iha _ h1).2 σ s _ E S (fun x σ q => truV.tb q) h) (fun c s' ⟨x, σ₁, t, S₁, q⟩ => ?_) fun _ _ e => e)
      have q' := q.use t
      cases c with
      | true => exact ⟨x, σ₁, t, S₁, q'⟩
      | false => exact hB.2 σ₁ _ Q E S₁ ht q'
  | ife c a b ihc iha ihb =>
    refine fun e h => and3 h fun h1 h2 h3 => ⟨fun σ s Q E S h => ?_, fun σ s Q E S ht h => ?_⟩
    · refine PyProof.Rows.IfExp_ (wpAny_mono ((ihc _ h1).2 σ s _ E S (fun x σ q => truV.tb q) h) (fun g s' ⟨x, σ₁, t, S₁, q⟩ => ?_) fun _ _ e => e)
      have q' := q.use t
      cases g with
      | true => exact (iha _ h2).1 σ₁ _ Q E S₁ q'
      | false => exact (ihb _ h3).1 σ₁ _ Q E S₁ q'
    · refine PyProof.Rows.isTrue_IfExp (wpAny_mono ((ihc _ h1).2 σ s _ E S (fun x σ q => truV.tb q) h) (fun g s' ⟨x, σ₁, t, S₁, q⟩ => ?_) fun _ _ e => e)
      have q' := q.use t
      cases g with
      | true => exact (iha _ h2).2 σ₁ _ Q E S₁ ht q'
      | false => exact (ihb _ h3).2 σ₁ _ Q E S₁ ht q'
  | attr a k iha =>
    intro e h
    have i1 := (iha _ (and2 h).2).1
    obtain ⟨x, p, ex⟩ := isNm_inv (and2 h).1
    show X.Ok (.Attribute (reE a (kid e 0)) (anm k) e.pos) (.attr a k)
    rw [ex] at i1 ⊢
    exact .both (fun _ _ => rfl) fun σ s Q E S h => Attribute_Name_ (QQ.bind (i1 σ s _ E S h) fun x σ₁ v s₁ hv S₁ h' => attr_sound k S₁ g.cx.kin g.cx.kf.sum g.cx.kf.piece hv h')
  | idx a b iha ihb =>
    exact fun e h => and3 h fun h1 h2 h3 => .both (fun _ _ => rfl) fun σ s Q E S h => PyProof.Rows.Subscript_ (QQ.bind ((iha _ h2).1 σ s _ E S h) fun x σ₁ v s₁ hv S₁ h' =>
      QQ.bind ((ihb _ h3).1 σ₁ s₁ _ E S₁ h') fun y σ₂ u s₂ hu S₂ h'' => idx_sound S₂ (isSl_inv h1) hv hu h'')
  | slc a l u iha ihl ihu =>
    refine fun e h => and3 h fun h1 h2 h3 => .both (fun _ _ => rfl) fun σ s Q E S h => ?_
    have part : ∀ (b : AE) (o : Option PySem.Expr), slOk b (okE X.sc X.vars b) o = true → (∀ e, okE X.sc X.vars b e = true → X.Ok (reE b e) b) → ∀ σ s (Q : VQ), X.S σ s → ewp X.C b X.ρ σ Q E → X.wp (evalPart (o.map (reE b)) X.env) (X.q Q) E s := by
      intro b o hb ih σ s Q S h
      cases o with
      | none => obtain rfl := isNo_inv hb; exact wpAny_pure (S.same0 h rfl)
      | some x => exact (ih x hb).1 σ s Q E S h
    refine PyProof.Rows.Subscript_ (QQ.bind ((iha _ h1).1 σ s _ E S h) fun x σ₁ vx s₁ hx S₁ h' => ?_)
    refine wpAny_Slice (QQ.bind (part l _ h2 ihl σ₁ s₁ _ S₁ h') fun y σ₂ vy s₂ hy S₂ h'' => ?_)
    refine QQ.bind (part u _ h3 ihu σ₂ s₂ _ S₂ h'') fun z σ₃ vz s₃ hz S₃ h3 => ?_
    exact wpAny_pure (cut_sound S₃ hx hy hz h3)
  | tup2 a b iha ihb => exact fun e h => EX.tup (as := [a, b]) ⟨sp (and2 h).1 (iha _ (and2 h).1), sp (and2 h).2 (ihb _ (and2 h).2), trivial⟩ (Nat.le_of_ble_eq_true rfl) fun _ _ _ h => h
  | tup3 a b c iha ihb ihc => exact fun e h => and3 h fun h1 h2 h3 => EX.tup (as := [a, b, c]) ⟨sp h1 (iha _ h1), sp h2 (ihb _ h2), sp h3 (ihc _ h3), trivial⟩ (Nat.le_of_ble_eq_true rfl) fun _ _ _ h => h
  | tup4 a b c d iha ihb ihc ihd => exact fun e h => and4 h fun h1 h2 h3 h4 => EX.tup (as := [a, b, c, d]) ⟨sp h1 (iha _ h1), sp h2 (ihb _ h2), sp h3 (ihc _ h3), sp h4 (ihd _ h4), trivial⟩ (Nat.le_of_ble_eq_true rfl) fun _ _ _ h => h
  | lst1 a iha => exact fun e h => EX.lst (as := [a]) ⟨sp h (iha _ h), trivial⟩ (Nat.le_of_ble_eq_true rfl) fun _ _ _ h => h
  | lst3 a b c iha ihb ihc => exact fun e h => and3 h fun h1 h2 h3 => EX.lst (as := [a, b, c]) ⟨sp h1 (iha _ h1), sp h2 (ihb _ h2), sp h3 (ihc _ h3), trivial⟩ (Nat.le_of_ble_eq_true rfl) fun _ _ _ h => h
  | lst0 => exact fun e _ => EX.lst (as := []) trivial (Nat.le_of_ble_eq_true rfl) fun _ _ _ h => h
  | tupI l => exact fun e h => EX.tup (ints_sound (reInts_ok l _)) (by rw [List.length_map]; exact of_decide_eq_true h) fun σ Q E h => ewpL_ints X.C X.ρ E l σ _ h
  | dictI l => exact fun e h => and3 h fun h1 h2 h3 => .both (fun _ _ => rfl) fun σ s Q E S h => dict_sound g.cx g.ok S (rePairs_ok l _ _) (of_decide_eq_true h1) (of_decide_eq_true h2) (of_decide_eq_true h3) h
  | comp =>
    refine fun e h => and6 h fun h1 h2 h3 h4 h5 h6 => .both (fun _ _ => rfl) fun σ s Q E S h => ?_
    obtain ⟨a, xs, e1, e2, e4, e3⟩ := h
    have hr : X.ρ[0]? = some (.ref a) := by
      cases q : X.ρ[0]? with
      | none => simp [List.getD, q] at e1
      | some v => simp [List.getD, q] at e1; rw [e1]
    obtain ⟨u, f1, f2⟩ := g.lr.2 0 _ _ (beq_iff_eq.mp h5) hr nofun
    cases f2
    exact comp_sound g.EO g.ok S (beq_iff_eq.mp h1) (beq_iff_eq.mp h2) (not1 h3) (not1 h4) (beq_iff_eq.mp h6) f1 e2 e4 e3
  | call1 f a iha => exact fun e h => and3 h fun g1 g2 h1 => .both (fun _ _ => rfl) fun σ s Q E S h => call_fn g (as := []) g1 g2 ⟨sp h1 (iha _ h1), trivial⟩ S h
  | call2 f a b iha ihb => exact fun e h => and4 h fun g1 g2 h1 h2 => .both (fun _ _ => rfl) fun σ s Q E S h => call_fn g (as := [b]) g1 g2 ⟨sp h1 (iha _ h1), sp h2 (ihb _ h2), trivial⟩ S h
  | call3 f a b c iha ihb ihc => exact fun e h => and5 h fun g1 g2 h1 h2 h3 => .both (fun _ _ => rfl) fun σ s Q E S h => call_fn g (as := [b, c]) g1 g2 ⟨sp h1 (iha _ h1), sp h2 (ihb _ h2), sp h3 (ihc _ h3), trivial⟩ S h
  | call4 f a b c d iha ihb ihc ihd => exact fun e h => and6 h fun g1 g2 h1 h2 h3 h4 => .both (fun _ _ => rfl) fun σ s Q E S h => call_fn g (as := [b, c, d]) g1 g2 ⟨sp h1 (iha _ h1), sp h2 (ihb _ h2), sp h3 (ihc _ h3), sp h4 (ihd _ h4), trivial⟩ S h
  | call0 f =>
    refine fun e h => .both (fun _ _ => rfl) fun σ s Q E S h' => ?_
    obtain ⟨k1, k2⟩ := g.cx.kf.fn f _ (and2 h).1
    exact Call_ (ldG g.cx g.EO S (and2 h).2 k1 (callWith_K0 (g.cx.kin.keeps S.stays) k2 (wpAny_mono (g.hC f [] σ Q E X.A s X.env X.outer X.L X.m X.frs [] g.ok S trivial h') (fun _ _ q => q) fun _ _ q => q.toXE)))
  | mk c a b d iha ihb ihd =>
    refine fun e h => and5 h fun g1 g2 h1 h2 h3 => .both (fun _ _ => rfl) fun σ s Q E S h => ?_
    have hk := mk_fn g.cx.kf (beq_iff_eq.mp g1)
    refine Call_ (ldG g.cx g.EO S g2 hk.1 ?_)
    refine call_args (as := [b, d]) g hk.2 ⟨sp h1 (iha _ h1), sp h2 (ihb _ h2), sp h3 (ihd _ h3), trivial⟩ S (R := mkL c Q) h fun xs vs σ' s' hv S' hq => ?_
    obtain ⟨x, y, z, vx, vy, vz, rfl, rfl, v1, v2, v3, hq⟩ := VRs.three hv hq
    exact mk_sound g.cx g.ok S' v1 v2 v3 hq
  | meth f a iha =>
    refine fun e h => and4 h fun c1 c2 c3 h1 => ?_
    obtain rfl := beq_iff_eq.mp c3
    refine .both (fun _ _ => rfl) fun σ s Q E S h => MethodCall_ (he := mcall_eq c1 c2 rfl) (QQ.bind ((iha _ h1).1 σ s _ E S h) fun x σ₁ v s₁ hv S₁ h' => ?_)
    obtain ⟨⟨t, p', m', n', rfl, e⟩, h'⟩ := h'
    cases hv
    obtain ⟨_, d, es, k, q1, q2, _, _, _, _, q6⟩ := S₁.ob _ _ e
    have XX := g.cx.kin.keeps S₁.stays
    have pg := plainGet_of (g.cx.kf.sum.plain "is_number")
    refine method_fn (od := some (dictOf es k)) XX ⟨q1, rfl, rfl, q2⟩ pg.1 pg.2 g.cx.kf.meth.1 g.cx.kf.meth.2.1 ?_ ?_
    · show (lookIn "is_number" (dictOf es k)).map _ = _; rw [lookIn_dict, q6]; rfl
    · exact callWith_K0 XX g.cx.kf.meth.2.2 (wpAny_mono (g.hC 0 [.ref t] σ₁ Q E X.A s₁ X.env X.outer X.L X.m X.frs [.ref t] g.ok S₁ ⟨rfl, trivial⟩ h') (fun _ _ q => q) fun _ _ q => q.toXE)
  | b1 f a iha =>
    refine fun e h => .both (fun _ _ => rfl) fun σ s Q E S h' => ?_
    have h1 := (and2 h).2
    refine Call_ (ldB g.cx g.EO S (and2 h).1 (g.cx.kf.nob _ (b1_facts f).1) (v := b1val f) (b1_facts f).2.1 (b1_facts f).2.2 ?_)
    have fin : X.wp (spliced (backTo e.pos (starEach [reE a (kid e 1)] X.env))) (fun vs s₁ => X.wp (call (b1val f) vs) (X.q Q) E s₁) E s := by
      refine wpAny_mono (spl_sound (as := [a]) ⟨sp h1 (iha _ h1), trivial⟩ S (Q := b1L f Q) h') (fun vs s' ⟨xs, σ', h1, h2, h3⟩ => ?_) fun _ _ e => e
      obtain ⟨x, vx, rfl, rfl, v1, h4⟩ := VRs.one h1.1 h3
      exact b1_sound f g.ok.hh h2 v1 h4
    cases f with
    | bytes => exact callWith_type1 fin (notStar h1 _ _)
    | _ => exact callWith_builtin1 fin (notStar h1 _ _)
  | barr => exact fun e _ => .both (fun _ _ => rfl) fun σ s Q E S h => (show False from h).elim
  | m0 f a iha =>
    refine fun e h => and3 h fun c1 c2 h1 => .both (fun _ _ => rfl) fun σ s Q E S h => MethodCall_ (he := mcall_eq c1 c2 rfl) (QQ.bind ((iha _ h1).1 σ s _ E S h) fun x σ₁ v s₁ hv S₁ h' => ?_)
    exact wpAny_mono (m0_sound f S₁ hv h') (fun fx s₂ ⟨e1, h2⟩ => e1 ▸ callWith_method0 h2) fun _ _ e => e
  | m1 f a b iha ihb =>
    refine fun e h => and4 h fun c1 c2 h1 h2 => .both (fun _ _ => rfl) fun σ s Q E S h => MethodCall_ (he := mcall_eq c1 c2 (by rw [notStar h2]; rfl)) (QQ.bind ((iha _ h1).1 σ s _ E S h) fun x σ₁ v s₁ hv S₁ h' => ?_)
    obtain ⟨k, ek, h'⟩ := h'
    refine m1_method f S₁ hv ek (callWith_method1 ?_ (notStar h2 _ _))
    refine wpAny_mono (spl_sound (as := [b]) ⟨sp h2 (ihb _ h2), trivial⟩ S₁ (Q := m1L k x Q) h') (fun vs s' ⟨xs, σ', h1, h2, h3⟩ => ?_) fun _ _ e => e
    obtain ⟨y, vx, rfl, rfl, v1, h4⟩ := VRs.one h1.1 h3
    exact m1_sound k h2 hv v1 h4
theorem ev_sound {sc : Scope} {vars : List Str} {C : CallT} {n : Nat} (cx : Cx K base mg mb) (hC : CS prog w base os n C) {a : AE} {e : PySem.Expr} (h : okE sc vars a e = true) : EvAt prog w base os sc vars C n (reE a e) a ∧ TrAt prog w base os sc vars C n (reE a e) a :=
  ⟨fun A env outer L m frs σ s ρ Q E EO ok S lr h' => (ev_snd (X := ⟨prog, w, base, os, K, mg, mb, sc, vars, C, n, A, env, outer, L, m, frs, ρ⟩) ⟨cx, hC, EO, ok, lr⟩ a e h).1 σ s Q E S h',
    fun A env outer L m frs σ s ρ Q E EO ok S lr ht h' => (ev_snd (X := ⟨prog, w, base, os, K, mg, mb, sc, vars, C, n, A, env, outer, L, m, frs, ρ⟩) ⟨cx, hC, EO, ok, lr⟩ a e h).2 σ s Q E S ht h'⟩
end Nm
end

section
open PySem PySem.W PySem.Calls PyProof.Rows
set_option tactic.hygienic false
set_option maxRecDepth 100000
namespace Nm

variable {prog : Program} {w : World} {base base' : Heap} {frs : Frs} {os : OsState} {σ : AH} {s : Shared} {A : Around} {K : Frag} {mg mb : Str → Option Value} {M : Model} {ks : List Addr}

/-- only an own object's own cell and its dict matter -/
theorem OR.keepG {fr : List Addr} {h h' : Heap} {a : Addr} {o : AO} (x : OR prog w base fr h a o) (ha : ∀ ob, h.get? a = some ob → h'.get? a = some ob)
    (hd : ∀ d es k, d ∉ fr → h.get? d = some (dictOf es k) → h'.get? d = some (dictOf es k)) : OR prog w base fr h' a o := by
  cases o with
  | list xs => obtain ⟨f, ⟨vs, n, q, r⟩, z⟩ := x; exact ⟨f, ⟨vs, n, ha _ q, r⟩, z⟩
  | tup xs => obtain ⟨f, ⟨vs, n, q, r⟩, z⟩ := x; exact ⟨f, ⟨vs, n, ha _ q, r⟩, z⟩
  | sum p m n => obtain ⟨f, d, es, k, q, q2, nf, r⟩ := x; exact ⟨f, d, es, k, ha _ q, hd _ _ _ nf q2, nf, r⟩
  | piece p m n => obtain ⟨f, d, es, k, q, q2, nf, r⟩ := x; exact ⟨f, d, es, k, ha _ q, hd _ _ _ nf q2, nf, r⟩
  | barr b => obtain ⟨f, ⟨l, q, r⟩, z⟩ := x; exact ⟨f, ⟨l, ha _ q, r⟩, z⟩
  | dict l => obtain ⟨f, sm, kvs, ⟨o, es, ep, q, r⟩, z⟩ := x; exact ⟨f, sm, kvs, ⟨o, es, ep, ha _ q, r⟩, z⟩
  | ro xs => obtain ⟨f, vs, ⟨o, q, r⟩, z⟩ := x; exact ⟨f, vs, ⟨o, ha _ q, r⟩, z⟩

theorem OR.rebase {fr : List Addr} {h : Heap} {a : Addr} {o : AO} (hb : base'.get? a = none → base.get? a = none) (x : OR prog w base' fr h a o) : OR prog w base fr h a o := by
  cases o with
  | list xs => exact ⟨x.1, x.2.1, hb x.2.2⟩
  | tup xs => exact ⟨x.1, x.2.1, x.2.2.imp hb id⟩
  | barr b => exact ⟨x.1, x.2.1, hb x.2.2⟩
  | sum p m n => exact x
  | piece p m n => exact x
  | dict l => exact x
  | ro xs => exact x

noncomputable def PinOb (o : Obj) : Prop := (∃ vs, o.data = .fields vs) ∨ (o.cls = .type "tuple" ∧ ∃ vs n, o.data = .seq vs n)

structure Pins (base : Heap) (fr : List Addr) (σ : AH) (h : Heap) (ks : List Addr) : Prop where
  sig : ∀ k ∈ ks, σ k = none
  fr : ∀ k ∈ ks, k ∉ fr
  nb : ∀ k ∈ ks, base.get? k = none
  tb : ∀ k ∈ ks, k ∉ tabs
  ob : ∀ k ∈ ks, ∃ o, h.get? k = some o ∧ PinOb o

noncomputable def pinned (h base : Heap) (ks : List Addr) : Heap := hideAll h ((List.range h.objs.size).filter fun b => (base.get? b).isNone && !ks.contains b)

theorem pinned_get {h : Heap} {b : Addr} {o : Obj} (e : h.get? b = some o) (hb : (base.get? b).isSome ∨ b ∈ ks) : (pinned h base ks).get? b = some o := by
  refine hideAll_get _ e fun hm => ?_
  simp only [List.mem_filter, Bool.and_eq_true, Bool.not_eq_true', Option.isNone_iff_eq_none] at hm
  rcases hb with hb | hb
  · rw [hm.2.1] at hb; cases hb
  · have := hm.2.2; simp [hb] at this

theorem of_pinned {h : Heap} {b : Addr} {o : Obj} (e : (pinned h base ks).get? b = some o) : h.get? b = some o ∧ ((base.get? b).isSome ∨ b ∈ ks) := by
  have q := of_hideAll _ e
  refine ⟨q, ?_⟩
  by_cases hm : b ∈ (List.range h.objs.size).filter fun b => (base.get? b).isNone && !ks.contains b
  · unfold pinned at e; rw [hideAll_none _ hm] at e; cases e
  · simp only [List.mem_filter, List.mem_range, Bool.and_eq_true, Bool.not_eq_true', Option.isNone_iff_eq_none, not_and] at hm
    have h1 := hm (Heap.lt_size q)
    cases q2 : base.get? b with
    | some o => exact .inl rfl
    | none =>
      have h3 := h1 q2
      right
      simpa using h3

theorem pinned_stays (S : base.StaysIn s.heap) : base.StaysIn (pinned s.heap base ks) := fun b o e => pinned_get (S b o e) (.inl (by rw [e]; rfl))

theorem St.pin (S : St prog w base frs os σ s) (P : Pins base frs.ad σ s.heap ks) : St prog w (pinned s.heap base ks) frs os σ s := by
  have none_of : ∀ a, base.get? a = none → a ∉ ks → (pinned s.heap base ks).get? a = none := fun a h1 h2 => by
    cases q : (pinned s.heap base ks).get? a with
    | none => rfl
    | some o =>
      rcases (of_pinned q).2 with h | h
      · rw [h1] at h; cases h
      · exact (h2 h).elim
  refine ⟨fun b o e => (of_pinned e).1, fun p hp => ⟨(S.fr p hp).1, none_of _ (S.fr p hp).2 fun hm => P.fr _ hm (List.mem_map.mpr ⟨p, hp, rfl⟩)⟩, S.nd, fun a o e => ?_, S.gens, S.os⟩
  exact (S.ob a o e).rebase fun h1 => none_of _ h1 fun hm => by rw [P.sig _ hm] at e; cases e

theorem St.unpin (hb : base.StaysIn base') (S : St prog w base' frs os σ s) : St prog w base frs os σ s := by
  have none_of : ∀ a, base'.get? a = none → base.get? a = none := fun a h1 => by
    cases q : base.get? a with
    | none => rfl
    | some o => rw [hb _ _ q] at h1; cases h1
  exact ⟨fun b o e => S.stays b o (hb b o e), fun p hp => ⟨(S.fr p hp).1, none_of _ (S.fr p hp).2⟩, S.nd, fun a o e => (S.ob a o e).rebase (none_of a), S.gens, S.os⟩

theorem XE.unpin {L : Addr} {R : AH → Prop} {x : Value} (hb : base.StaysIn base') (h : XE prog w base' L frs os R x s) : XE prog w base L frs os R x s := by
  have none_of : ∀ a, base'.get? a = none → base.get? a = none := fun a h1 => by
    cases q : base.get? a with
    | none => rfl
    | some o => rw [hb _ _ q] at h1; cases h1
  have at_of : ∀ e fl, ExcAt base' s.heap e fl → ExcAt base s.heap e fl := fun e fl h => ⟨none_of _ h.1, h.2.imp fun _ => Exists.imp fun _ => Exists.imp fun _ => Exists.imp fun _ => Exists.imp fun _ => Exists.imp fun _ h => ⟨h.1, h.2.1, h.2.2.1, h.2.2.2.1, none_of _ h.2.2.2.2.1, h.2.2.2.2.2⟩⟩
  obtain ⟨e, σ', m', rfl, S, X, r⟩ := h
  refine ⟨e, σ', m', rfl, S.unpin hb, ?_, r⟩
  rcases X with ⟨h1, h2⟩ | X | X
  · exact .inl ⟨none_of _ h1, h2⟩
  · exact .inr (.inl (at_of _ _ X))
  · exact .inr (.inr (at_of _ _ X))

theorem Cx.pin (cx : Cx K base mg mb) (hb : base.StaysIn base') : Cx K base' mg mb :=
  ⟨cx.kin.keeps hb, cx.g.keeps hb, cx.b.keeps hb, (let ⟨mc, h1, h2⟩ := cx.lim; ⟨mc, h1.keeps hb, h2⟩), cx.bi, cx.kf⟩

theorem PinOb.plain {o : Obj} (p : PinOb o) (h : o.data = .plain) : False := by
  rcases p with ⟨vs, e⟩ | ⟨_, vs, n, e⟩ <;> rw [h] at e <;> cases e
theorem PinOb.dict {o : Obj} {es : Array DictEntry} {n : Nat} (p : PinOb o) (h : o.data = .dict es n) : False := by
  rcases p with ⟨vs, e⟩ | ⟨_, vs, n, e⟩ <;> rw [h] at e <;> cases e

/-- pinned cells are no own object's -/
theorem Pins.again {fr : List Addr} {h : Heap} {σ₀ : AH} (P : Pins base fr σ₀ h ks) (S : St prog w (pinned h base ks) frs os σ s) (hf : frs.ad = fr) : Pins base frs.ad σ s.heap ks := by
  have at_ : ∀ k ∈ ks, ∃ o, (pinned h base ks).get? k = some o ∧ s.heap.get? k = some o ∧ PinOb o := fun k hk => by
    obtain ⟨o, e, p⟩ := P.ob k hk
    have e' := pinned_get (base := base) e (.inr hk)
    exact ⟨o, e', S.stays _ _ e', p⟩
  refine ⟨fun k hk => ?_, hf ▸ P.fr, P.nb, P.tb, fun k hk => ?_⟩
  · obtain ⟨o, e, e', p⟩ := at_ k hk
    cases q : σ k with
    | none => rfl
    | some ao =>
      exfalso
      have x := S.ob _ _ q
      cases ao with
      | list xs => have := x.2.2; rw [e] at this; cases this
      | tup xs => rcases x.2.2 with h | h
                  · rw [e] at h; cases h
                  · exact P.tb _ hk h
      | barr b => have := x.2.2; rw [e] at this; cases this
      | sum a b c => obtain ⟨_, d, es, n, q1, _⟩ := x; rw [e'] at q1; cases q1; exact p.plain rfl
      | piece a b c => obtain ⟨_, d, es, n, q1, _⟩ := x; rw [e'] at q1; cases q1; exact p.plain rfl
      | dict l => obtain ⟨_, _, kvs, ⟨o', es, ep, q1, _, q3, _⟩, _⟩ := x; rw [e'] at q1; cases q1; exact p.dict q3
      | ro xs =>
        obtain ⟨_, vs, ⟨o', q1, q2, n, q3⟩, _⟩ := x
        rw [e'] at q1; cases q1
        rcases p with ⟨vs, e⟩ | ⟨e, _⟩
        · rw [q3] at e; cases e
        · rw [q2] at e; simp at e
  · obtain ⟨o, _, e', p⟩ := at_ k hk; exact ⟨o, e', p⟩

/-- a step that turns pinned cells alone -/
theorem St.minor (S : St prog w base frs os σ s) (P : Pins base frs.ad σ s.heap ks) (h' : Heap) (tk : Nat) (hk : ∀ c o, c ∉ ks → s.heap.get? c = some o → h'.get? c = some o) :
    St prog w base frs os σ { s with heap := h', toks := tk } := by
  refine ⟨fun b o e => hk b o (fun hm => by rw [P.nb _ hm] at e; cases e) (S.stays b o e), fun p hp => ⟨?_, (S.fr p hp).2⟩, S.nd, fun a o e => (S.ob a o e).keepG (fun ob => hk a ob fun hm => by rw [P.sig _ hm] at e; cases e) fun d es k _ q => hk d _ (fun hm => ?_) q, S.gens, S.os⟩
  · obtain ⟨o', es, ep, h1, r⟩ := (S.fr p hp).1
    exact ⟨o', es, ep, hk _ _ (fun hm => P.fr _ hm (List.mem_map.mpr ⟨p, hp, rfl⟩)) h1, r⟩
  · obtain ⟨o, e1, p⟩ := P.ob d hm
    rw [q] at e1; cases e1; exact p.dict rfl

theorem Pins.move {fr : List Addr} {h h' : Heap} (P : Pins base fr σ h ks) (ho : ∀ k ∈ ks, ∃ o, h'.get? k = some o ∧ PinOb o) : Pins base fr σ h' ks := ⟨P.sig, P.fr, P.nb, P.tb, ho⟩

/-- new cells may be pinned -/
theorem St.newPins (cx : Cx K base mg mb) (S : St prog w base frs os σ s) (hk : ∀ k ∈ ks, s.heap.objs.size ≤ k) {h' : Heap} (ho : ∀ k ∈ ks, ∃ o, h'.get? k = some o ∧ PinOb o) : Pins base frs.ad σ h' ks := by
  have hn : ∀ k ∈ ks, s.heap.get? k = none := fun k hm => Heap.get?_none_of_le (hk k hm)
  refine ⟨fun k hm => (S.free (hn k hm)).1, fun k hm => (S.free (hn k hm)).2.1, fun k hm => (S.free (hn k hm)).2.2, fun k hm ht => ?_, ho⟩
  have := cx.kf.tb k ht
  obtain ⟨o, e⟩ := Option.isSome_iff_exists.mp this
  have := S.stays _ _ (cx.kin _ _ e)
  rw [hn k hm] at this; cases this

theorem nodup_at {α : Type} : ∀ {l : List α} {i j : Nat} {x : α}, l.Nodup → l[i]? = some x → l[j]? = some x → i = j
  | [], i, j, x, _, h, _ => by simp at h
  | y :: ys, 0, 0, x, _, _, _ => rfl
  | y :: ys, 0, j + 1, x, n, h, g => by
    simp at h g; subst h
    exact ((List.nodup_cons.mp n).1 (List.mem_of_getElem? g)).elim
  | y :: ys, i + 1, 0, x, n, h, g => by
    simp at h g; subst g
    exact ((List.nodup_cons.mp n).1 (List.mem_of_getElem? h)).elim
  | y :: ys, i + 1, j + 1, x, n, h, g => by
    simp at h g
    rw [nodup_at (List.nodup_cons.mp n).2 h g]

theorem LR.set {vars : List Str} {ρ : List AV} {m : Str → Option Value} {i : Nat} {x : Str} {a : AV} {v : Value} (lr : LR vars ρ m) (hN : vars.Nodup) (hi : vars[i]? = some x) (hv : VR a v) :
    LR vars (ρ.set i a) (fun y => if y = x then some v else m y) := by
  refine ⟨by rw [List.length_set]; exact lr.1, fun j y b hy hb hu => ?_⟩
  by_cases e : j = i
  · subst e
    have hlt : j < ρ.length := by rw [lr.1]; exact (List.getElem?_eq_some_iff.mp hi).1
    rw [hi] at hy; cases hy
    rw [List.getElem?_set_self hlt] at hb; cases hb
    exact ⟨v, if_pos rfl, hv⟩
  · rw [List.getElem?_set_ne (Ne.symm e)] at hb
    have hne : y ≠ x := fun q => e (by
      subst q
      exact nodup_at hN hy hi)
    obtain ⟨u, h1, h2⟩ := lr.2 j y b hy hb hu
    exact ⟨u, (if_neg hne).trans h1, h2⟩

theorem store_sound {vars : List Str} {ρ : List AV} {env : Env} {sc : Scope} {L : Addr} {m : Str → Option Value} {i : Nat} {x : Str} {a : AV} {v : Value} {R : Unit → Shared → Prop} {E : Value → Shared → Prop} (EO : EnvOK env sc L)
    (S : St prog w base ((L, m) :: frs) os σ s) (lr : LR vars ρ m) (hN : vars.Nodup) (hi : vars[i]? = some x) (hx : sc.names.lookup x = some .local) (hv : VR a v)
    (k : ∀ m' s', St prog w base ((L, m') :: frs) os σ s' → LR vars (ρ.set i a) m' → (∀ c o, c ≠ L → s.heap.get? c = some o → s'.heap.get? c = some o) → R () s') : wpAny M A (storeName env x v) R E s := by
  have hk := EO.kind
  refine wpAny_storeName_local (m := m) (by unfold Env.kindOf; rw [EO.scope]; exact hx) (by rw [EO.loc]; exact (S.fr _ (.head _)).1) (fun h' hn' hs' => ?_) (by rw [EO.scope, hk]; rfl)
  rw [EO.loc] at hn' hs'
  exact k _ _ (S.store h' _ hn' hs') (lr.set hN hi hv) fun c o hc e => (hs'.2 c hc).trans e
end Nm
end

section
open PySem PySem.W PySem.Calls PyProof.Rows
set_option tactic.hygienic false
set_option maxRecDepth 100000
namespace Nm

variable {prog : Program} {w : World} {base base' : Heap} {frs : Frs} {os : OsState} {σ : AH} {s : Shared} {A : Around} {K : Frag} {mg mb : Str → Option Value} {ks : List Addr}

noncomputable def FR : Out → Flow → Prop
  | .next, f => f = .next
  | .ret v, f => ∃ u, f = .ret u ∧ VR v u

section
variable (prog w base os)
noncomputable def FQ (L : Addr) (frs : Frs) (vars : List Str) (Q : SQ) : Flow → Shared → Prop := fun f s' => ∃ o ρ' σ' m', FR o f ∧ St prog w base ((L, m') :: frs) os σ' s' ∧ LR vars ρ' m' ∧ Q o ρ' σ'
end
section
variable (prog w os K mg mb)
/-- a statement does what it says -/
noncomputable def StAt (sc : Scope) (vars : List Str) (C : CallT) (n : Nat) (st : Stmt) (a : AS) : Prop :=
  ∀ (base : Heap) (A : Around) (env : Env) (outer : List Env) (L : Addr) (m : Str → Option Value) (frs : Frs) (σ : AH) (s : Shared) (ρ : List AV) (Q : SQ) (E : AH → Prop),
    Cx K base mg mb → EnvOK env sc L → Ok n A env outer L m frs → St prog w base ((L, m) :: frs) os σ s → LR vars ρ m → swp C a ρ σ Q E →
    wpAny (model prog w) A (exec st env) (FQ prog w base os L frs vars Q) (XE prog w base L frs os E) s
noncomputable def BkAt (sc : Scope) (vars : List Str) (C : CallT) (n : Nat) (b : List Stmt) (a : AS) : Prop :=
  ∀ (base : Heap) (A : Around) (env : Env) (outer : List Env) (L : Addr) (m : Str → Option Value) (frs : Frs) (σ : AH) (s : Shared) (ρ : List AV) (Q : SQ) (E : AH → Prop),
    Cx K base mg mb → EnvOK env sc L → Ok n A env outer L m frs → St prog w base ((L, m) :: frs) os σ s → LR vars ρ m → swp C a ρ σ Q E →
    wpAny (model prog w) A (execs b env) (FQ prog w base os L frs vars Q) (XE prog w base L frs os E) s
end

theorem Ok.any {n : Nat} {env : Env} {outer : List Env} {L : Addr} {m m' : Str → Option Value} (ok : Ok n A env outer L m frs) : Ok n A env outer L m' frs := ⟨ok.hh, ok.fr, ok.ea, ok.dep, ok.un⟩

/-- a while loop -/
theorem while_sound {sc : Scope} {vars : List Str} {C : CallT} {n : Nat} {test : PySem.Expr} {body : List Stmt} {c : AE} {a : AS} {pos : Pos} {env : Env} {outer : List Env} {L : Addr} {m : Str → Option Value} {ρ : List AV} {Q : SQ} {E : AH → Prop}
    (cx : Cx K base mg mb) (EO : EnvOK env sc L) (ok : Ok n A env outer L m frs) (ht : TrAt prog w base os sc vars C n test c) (hb : BkAt prog w os K mg mb sc vars C n body a)
    (S : St prog w base ((L, m) :: frs) os σ s) (lr : LR vars ρ m) (h : swp C (.while c a) ρ σ Q E) :
    wpAny (model prog w) A (exec (.While test body [] pos) env) (FQ prog w base os L frs vars Q) (XE prog w base L frs os E) s := by
  obtain ⟨k, h⟩ := h
  refine wpAny_While (codeAny_whileLoop (fun k s' => ∃ ρ σ m, St prog w base ((L, m) :: frs) os σ s' ∧ LR vars ρ m ∧ whileN (fun ρ σ q => ewp C c ρ σ q E) (fun ρ σ q => swp C a ρ σ q E) Q k ρ σ) ?_ k ⟨ρ, σ, m, S, lr, h⟩)
  rintro k s ⟨ρ, σ, m, S, lr, h⟩
  cases k with
  | zero => exact (show False from h).elim
  | succ k =>
    have pass : ∀ e s', XE prog w base L frs os E e s' → notedBy (model prog w) A env (cameBackBy (model prog w) A env (XE prog w base L frs os E)) e s' := fun e s' x => XE.passes ok.fr (ok.any (m' := m)).ea x
    refine wpAny_mono (ht A env outer L m frs σ s ρ _ E EO ok.any S lr (fun x σ hx => truV.tb hx) h) (fun b s₂ ⟨x, σ', t, S', hq⟩ => ?_) pass
    have hq := truV.use hq t
    cases b with
    | false => exact wpAny_execs_nil ⟨.next, ρ, σ', m, rfl, S', lr, hq⟩
    | true =>
      refine wpAny_mono (hb base A env outer L m frs σ' s₂ ρ _ E cx EO ok.any S' lr hq) (fun f s₃ ⟨o, ρ₂, σ₂, m₂, hf, S₂, lr₂, hq₂⟩ => ?_) pass
      cases o with
      | next => cases hf; exact ⟨k, Nat.lt_succ_self k, ρ₂, σ₂, m₂, S₂, lr₂, hq₂⟩
      | ret v => obtain ⟨u, rfl, hv⟩ := hf; exact ⟨.ret v, ρ₂, σ₂, m₂, ⟨u, rfl, hv⟩, S₂, lr₂, hq₂⟩

/-- a for loop over what an iterator hands out -/
theorem for_core {X : Type} {xs : List X} {G : AH → Prop} {Sx : X → List AV → List AV} {sc : Scope} {vars : List Str} {C : CallT} {n : Nat} {body : List Stmt} {a : AS} {target : PySem.Expr} {it : Value} {env : Env} {outer : List Env} {L : Addr} {m : Str → Option Value} {ρ : List AV} {Q : SQ} {E : AH → Prop}
    (cx : Cx K base mg mb) (EO : EnvOK env sc L) (ok : Ok n A env outer L m frs) (hb : BkAt prog w os K mg mb sc vars C n body a) (I : Nat → Heap → Prop)
    (kinds : ∀ i h, I i h → ∀ k ∈ ks, ∃ o, h.get? k = some o ∧ PinOb o)
    (frame : ∀ i h h', I i h → (∀ k ∈ ks, ∀ o, h.get? k = some o → h'.get? k = some o) → I i h')
    (turn : ∀ i x σ s m ρ (R : Shared → Prop) (E' : Value → Shared → Prop), xs[i]? = some x → I i s.heap → St prog w base ((L, m) :: frs) os σ s → Pins base (Frs.ad ((L, m) :: frs)) σ s.heap ks → G σ → LR vars ρ m →
      (∀ m' s', I (i + 1) s'.heap → St prog w base ((L, m') :: frs) os σ s' → LR vars (Sx x ρ) m' → R s') →
      wpAny (model prog w) A (pyNext it) (fun r s₁ => match r with
        | none => False
        | some v => wpAny (model prog w) A (letOwnedTupleGo target it v) (fun _ s₁' => wpAny (model prog w) A (assign target env v) (fun _ s₂ => R s₂) E' s₁') E' s₁) E' s)
    (done : ∀ σ s m (R : Shared → Prop) (E' : Value → Shared → Prop), I xs.length s.heap → St prog w base ((L, m) :: frs) os σ s → Pins base (Frs.ad ((L, m) :: frs)) σ s.heap ks → G σ →
      (∀ s', St prog w base ((L, m) :: frs) os σ s' → R s') → wpAny (model prog w) A (pyNext it) (fun r s₁ => match r with | none => R s₁ | some _ => False) E' s)
    (S : St prog w base ((L, m) :: frs) os σ s) (lr : LR vars ρ m) (P : Pins base (Frs.ad ((L, m) :: frs)) σ s.heap ks) (h0 : I 0 s.heap)
    (h : forN G Sx (fun ρ σ q => swp C a ρ σ q E) Q xs ρ σ) :
    codeAny (model prog w) A (.forLoop target it body [] env) (fun r s' => match r with | .ok f => FQ prog w base os L frs vars Q f s' | .error e => cameBackBy (model prog w) A env (XE prog w base L frs os E) e s') s := by
  refine codeAny_forLoop_any (fun k s' => ∃ i ρ σ m, k + i = xs.length ∧ I i s'.heap ∧ St prog w base ((L, m) :: frs) os σ s' ∧ Pins base (Frs.ad ((L, m) :: frs)) σ s'.heap ks ∧ LR vars ρ m ∧
    forN G Sx (fun ρ σ q => swp C a ρ σ q E) Q (xs.drop i) ρ σ) ?_ xs.length ⟨0, ρ, σ, m, rfl, h0, S, P, lr, by simpa using h⟩
  rintro k s ⟨i, ρ, σ, m, hk, hI, S, P, lr, h⟩
  have pass : ∀ e s', XE prog w base L frs os E e s' → notedBy (model prog w) A env (cameBackBy (model prog w) A env (XE prog w base L frs os E)) e s' := fun e s' x => XE.passes ok.fr (ok.any (m' := m)).ea x
  cases k with
  | zero =>
    have hi : i = xs.length := by omega
    subst hi
    rw [List.drop_length] at h
    refine wpAny_mono (done σ s m (fun s' => St prog w base ((L, m) :: frs) os σ s') _ hI S P h.1 fun _ x => x) (fun r s₁ h₁ => ?_) fun _ _ x => x
    cases r with
    | some v => exact h₁.elim
    | none => exact wpAny_execs_nil ⟨.next, ρ, σ, m, rfl, h₁, lr, h.2⟩
  | succ k =>
    have hi : i < xs.length := by omega
    rw [List.drop_eq_getElem_cons hi] at h
    refine wpAny_mono (turn i xs[i] σ s m ρ ?R _ (List.getElem?_eq_getElem hi) hI S P h.1 lr ?k) (fun r s₁ h₁ => ?g) fun _ _ x => x
    case g =>
      cases r with
      | none => exact h₁.elim
      | some v => exact h₁
    intro m' s' hI' S' lr'
    have P' : Pins base (Frs.ad ((L, m') :: frs)) σ s'.heap ks := P.move (kinds _ _ hI')
    have hs := pinned_stays (ks := ks) S'.stays
    refine wpAny_mono (hb (pinned s'.heap base ks) A env outer L m' frs σ s' _ _ E (cx.pin hs) EO ok.any (S'.pin P') lr' h.2) (fun f s₃ ⟨o, ρ₂, σ₂, m₂, hf, S₂, lr₂, hq₂⟩ => ?_) fun e s₃ x => pass e s₃ (x.unpin hs)
    cases o with
    | next =>
      cases hf
      refine ⟨k, Nat.lt_succ_self k, i + 1, ρ₂, σ₂, m₂, by omega, frame _ _ _ hI' (fun q hq o e => S₂.stays _ _ (pinned_get e (.inr hq))), S₂.unpin hs, P'.again S₂ rfl, lr₂, hq₂⟩
    | ret v => obtain ⟨u, rfl, hv⟩ := hf; exact ⟨.ret v, ρ₂, σ₂, m₂, ⟨u, rfl, hv⟩, S₂.unpin hs, lr₂, hq₂⟩
end Nm
end

section
open PySem PySem.W PySem.Calls PyProof.Rows
set_option tactic.hygienic false
set_option maxRecDepth 100000
namespace Nm

variable {prog : Program} {w : World} {base base' : Heap} {frs : Frs} {os : OsState} {σ : AH} {s : Shared} {A : Around} {K : Frag} {mg mb : Str → Option Value} {ks : List Addr}
variable {sc : Scope} {vars : List Str} {C : CallT} {n : Nat} {body : List Stmt} {a : AS} {env : Env} {outer : List Env} {L : Addr} {m : Str → Option Value} {ρ : List AV} {Q : SQ} {E : AH → Prop}

theorem ne_of_there {h : Heap} {a : Addr} {o : Obj} (e : h.get? a = some o) : a ≠ h.objs.size := Nat.ne_of_lt (Heap.lt_size e)

theorem forList_sound {i : Nat} {x : Str} {px : Pos} {l : Nat} {xs : List AV} (cx : Cx K base mg mb) (EO : EnvOK env sc L) (ok : Ok n A env outer L m frs) (hb : BkAt prog w os K mg mb sc vars C n body a)
    (hN : vars.Nodup) (hi : vars[i]? = some x) (hx : sc.names.lookup x = some .local) (S : St prog w base ((L, m) :: frs) os σ s) (lr : LR vars ρ m) (hl : σ l = some (.list xs))
    (h : forN (fun σ' => σ' l = some (.list xs)) (fun x ρ => ρ.set i x) (fun ρ σ q => swp C a ρ σ q E) Q xs ρ σ) :
    wpAny (model prog w) A (pyIter (.ref l)) (fun it s₂ => codeAny (model prog w) A (.forLoop (.Name x px) it body [] env) (fun r s' => match r with | .ok f => FQ prog w base os L frs vars Q f s' | .error e => cameBackBy (model prog w) A env (XE prog w base L frs os E) e s') s₂) (XE prog w base L frs os E) s := by
  obtain ⟨_, ⟨vs, k, q1, q2⟩, _⟩ := S.ob _ _ hl
  refine wpAny_pyIter_list (items := vs) ⟨_, q1, rfl, k, rfl⟩ ?_
  have hat : (s.heap.push { cls := .type "list_iterator", data := .fields #[.ref l, .int 0 0] }).get? s.heap.objs.size = some { cls := .type "list_iterator", data := .fields #[.ref l, .int 0 0] } := Heap.get?_push_size _ rfl
  have hk : ∀ b o, s.heap.get? b = some o → (s.heap.push { cls := .type "list_iterator", data := .fields #[.ref l, .int 0 0] }).get? b = some o := fun b o e => Heap.get?_push_of_some _ e
  have kinds : ∀ i h, Heap.IsListIter h s.heap.objs.size l i → ∀ k ∈ [s.heap.objs.size], ∃ o, h.get? k = some o ∧ PinOb o := fun i h hit k hk => by
    obtain ⟨o, e, _, d⟩ := hit
    cases List.mem_singleton.mp hk
    exact ⟨o, e, .inl ⟨_, d⟩⟩
  have I0 : Heap.IsListIter (s.heap.push { cls := .type "list_iterator", data := .fields #[.ref l, .int 0 0] }) s.heap.objs.size l 0 := ⟨_, hat, rfl, rfl⟩
  refine for_core (ks := [s.heap.objs.size]) cx EO ok hb (fun i h => h.IsListIter s.heap.objs.size l i) kinds (fun i h h' hit kp => hit.at fun o e => kp _ (.head _) o e) ?_ ?_
    (S.grow _ s.toks hk) lr (S.newPins cx (fun k hk => by cases List.mem_singleton.mp hk; exact Nat.le_refl _) (kinds 0 _ I0)) I0 h
  · intro j y σ s₁ m ρ R E' hy hit S₁ P g lr₁ hR
    obtain ⟨_, ⟨vs, k, q1, q2⟩, _⟩ := S₁.ob _ _ g
    obtain ⟨v, hv, hvr⟩ := q2.get hy
    refine wpAny_pyNext_list_item hit ⟨_, q1, rfl, k, rfl⟩ (by simpa using hv) fun h' hit' hs => ?_
    refine wpAny_of_eq (a := ()) rfl ?_
    have S₂ := S₁.minor P h' s₁.toks fun c o hc e => hs.extBut c o (fun q => hc (by rw [q]; exact .head _)) e
    refine wpAny_assign_Name (store_sound EO S₂ lr₁ hN hi hx hvr fun m' s' S' lr' kp => hR m' s' (hit'.at fun o e => kp _ o (fun q => P.fr _ (.head _) (by rw [q]; exact .head _)) e) S' lr')
  · intro σ s₁ m R E' hit S₁ P g hR
    obtain ⟨_, ⟨vs, k, q1, q2⟩, _⟩ := S₁.ob _ _ g
    refine wpAny_pyNext_list_end ok.hh hit (items := vs) ⟨_, q1, rfl, k, rfl⟩ ?_ fun h' hs => hR _ (S₁.minor P h' s₁.toks fun c o hc e => hs c o (fun q => hc (by rw [q]; exact .head _)) e)
    have := q2.length
    rw [Array.getElem?_eq_none]; simp at this; omega

theorem forStr_sound {i : Nat} {x : Str} {px : Pos} {t : List Nat} {tk : Tok} (cx : Cx K base mg mb) (EO : EnvOK env sc L) (ok : Ok n A env outer L m frs) (hb : BkAt prog w os K mg mb sc vars C n body a)
    (hN : vars.Nodup) (hi : vars[i]? = some x) (hx : sc.names.lookup x = some .local) (S : St prog w base ((L, m) :: frs) os σ s) (lr : LR vars ρ m) (ht : t.all (· < 128) = true)
    (h : forN (fun _ => True) (fun x ρ => ρ.set i x) (fun ρ σ q => swp C a ρ σ q E) Q (t.map fun c => AV.str [c]) ρ σ) :
    wpAny (model prog w) A (pyIter (.str ⟨t.toArray⟩ tk)) (fun it s₂ => codeAny (model prog w) A (.forLoop (.Name x px) it body [] env) (fun r s' => match r with | .ok f => FQ prog w base os L frs vars Q f s' | .error e => cameBackBy (model prog w) A env (XE prog w base L frs os E) e s') s₂) (XE prog w base L frs os E) s := by
  refine wpAny_pyIter_ascii (by simpa using ht) ?_
  have hat : (s.heap.push { cls := .type "str_ascii_iterator", data := .fields #[.str ⟨t.toArray⟩ tk, .int 0 0] }).get? s.heap.objs.size = some { cls := .type "str_ascii_iterator", data := .fields #[.str ⟨t.toArray⟩ tk, .int 0 0] } := Heap.get?_push_size _ rfl
  have hk : ∀ b o, s.heap.get? b = some o → (s.heap.push { cls := .type "str_ascii_iterator", data := .fields #[.str ⟨t.toArray⟩ tk, .int 0 0] }).get? b = some o := fun b o e => Heap.get?_push_of_some _ e
  have kinds : ∀ i h, Heap.IsStrIter h s.heap.objs.size "str_ascii_iterator" ⟨t.toArray⟩ tk i → ∀ k ∈ [s.heap.objs.size], ∃ o, h.get? k = some o ∧ PinOb o := fun i h hit k hk => by
    obtain ⟨o, e, _, d⟩ := hit
    cases List.mem_singleton.mp hk
    exact ⟨o, e, .inl ⟨_, d⟩⟩
  have I0 : Heap.IsStrIter (s.heap.push { cls := .type "str_ascii_iterator", data := .fields #[.str ⟨t.toArray⟩ tk, .int 0 0] }) s.heap.objs.size "str_ascii_iterator" ⟨t.toArray⟩ tk 0 := ⟨_, hat, rfl, rfl⟩
  refine for_core (ks := [s.heap.objs.size]) cx EO ok hb (fun i h => h.IsStrIter s.heap.objs.size "str_ascii_iterator" ⟨t.toArray⟩ tk i) kinds (fun i h h' ⟨o, e, r⟩ kp => ⟨o, kp _ (.head _) o e, r⟩) ?_ ?_
    (S.grow _ s.toks hk) lr (S.newPins cx (fun k hk => by cases List.mem_singleton.mp hk; exact Nat.le_refl _) (kinds 0 _ I0)) I0 h
  · intro j y σ s₁ m ρ R E' hy hit S₁ P g lr₁ hR
    rw [List.getElem?_map] at hy
    obtain ⟨c, hc, rfl⟩ := Option.map_eq_some_iff.mp hy
    refine wpAny_pyNext_ascii_item hit (c := c) (by simpa using hc) fun h' hit' hs => ?_
    refine wpAny_of_eq (a := ()) rfl ?_
    have S₂ := S₁.minor P h' (s₁.toks + 1) fun c o hc e => hs.extBut c o (fun q => hc (by rw [q]; exact .head _)) e
    refine wpAny_assign_Name (store_sound (a := .str [c]) EO S₂ lr₁ hN hi hx ⟨_, rfl⟩ fun m' s' S' lr' kp => hR m' s' ?_ S' lr')
    obtain ⟨o, e, r⟩ := hit'
    exact ⟨o, kp _ o (fun q => P.fr _ (.head _) (by rw [q]; exact .head _)) e, r⟩
  · intro σ s₁ m R E' hit S₁ P g hR
    refine wpAny_pyNext_ascii_end ok.hh hit ?_ fun h' hs => hR _ (S₁.minor P h' s₁.toks fun c o hc e => hs c o (fun q => hc (by rw [q]; exact .head _)) e)
    simp

theorem forRange_sound {i : Nat} {x : Str} {px : Pos} {N : Nat} {r : Addr} {t1 t2 t3 : Tok} (cx : Cx K base mg mb) (EO : EnvOK env sc L) (ok : Ok n A env outer L m frs) (hb : BkAt prog w os K mg mb sc vars C n body a)
    (hN : vars.Nodup) (hi : vars[i]? = some x) (hx : sc.names.lookup x = some .local) (S : St prog w base ((L, m) :: frs) os σ s) (lr : LR vars ρ m) (hl : N ≤ 100) (hr : IsRange s.heap r 0 N 1 t1 t2 t3)
    (h : forN (fun _ => True) (fun (k : Nat) ρ => ρ.set i (.int k)) (fun ρ σ q => swp C a ρ σ q E) Q (List.range N) ρ σ) :
    wpAny (model prog w) A (pyIter (.ref r)) (fun it s₂ => codeAny (model prog w) A (.forLoop (.Name x px) it body [] env) (fun r s' => match r with | .ok f => FQ prog w base os L frs vars Q f s' | .error e => cameBackBy (model prog w) A env (XE prog w base L frs os E) e s') s₂) (XE prog w base L frs os E) s := by
  have hsz : Builtin.Range.rangeSize 0 N 1 = N := by rw [rangeSize_one]; split <;> omega
  refine wpAny_pyIter_range hr (small_one (by omega) (by omega) (by omega) (by omega)) ?_
  rw [hsz]
  have hat : IsRangeIter (s.heap.push { cls := .type "range_iterator", data := .fields #[rawInt 0, rawInt N, rawInt 1] }) s.heap.objs.size 0 N 1 := Heap.get?_push_size _ rfl
  have hk : ∀ b o, s.heap.get? b = some o → (s.heap.push { cls := .type "range_iterator", data := .fields #[rawInt 0, rawInt N, rawInt 1] }).get? b = some o := fun b o e => Heap.get?_push_of_some _ e
  have kinds : ∀ (i : Nat) h, IsRangeIter h s.heap.objs.size (i : Int) ((N : Int) - (i : Int)) 1 → ∀ k ∈ [s.heap.objs.size], ∃ o, h.get? k = some o ∧ PinOb o := fun i h hit k hk => by
    cases List.mem_singleton.mp hk
    exact ⟨_, hit, .inl ⟨_, rfl⟩⟩
  have I0 : IsRangeIter (s.heap.push { cls := .type "range_iterator", data := .fields #[rawInt 0, rawInt N, rawInt 1] }) s.heap.objs.size ((0 : Nat) : Int) ((N : Int) - ((0 : Nat) : Int)) 1 := by simpa using hat
  refine for_core (ks := [s.heap.objs.size]) cx EO ok hb (fun i h => IsRangeIter h s.heap.objs.size (i : Int) ((N : Int) - (i : Int)) 1) kinds (fun i h h' e kp => kp _ (.head _) _ e) ?_ ?_
    (S.grow _ s.toks hk) lr (S.newPins cx (fun k hk => by cases List.mem_singleton.mp hk; exact Nat.le_refl _) (kinds 0 _ I0)) I0 h
  · intro j y σ s₁ m ρ R E' hy hit S₁ P g lr₁ hR
    have hj : j < N := by have := (List.getElem?_eq_some_iff.mp hy).1; simpa using this
    have hyj : y = j := by rw [List.getElem?_range hj] at hy; cases hy; rfl
    subst hyj
    refine wpAny_pyNext_range_item hit (by omega) fun h' hit' hs => ?_
    refine wpAny_of_eq (a := ()) rfl ?_
    have S₂ := S₁.minor P h' (s₁.toks + 1) fun c o hc e => hs.extBut c o (fun q => hc (by rw [q]; exact .head _)) e
    refine wpAny_assign_Name (store_sound (a := .int y) EO S₂ lr₁ hN hi hx ⟨_, rfl⟩ fun m' s' S' lr' kp => hR m' s' ?_ S' lr')
    have e1 : ((y + 1 : Nat) : Int) = (y : Int) + 1 := by omega
    have e2 : (N : Int) - ((y + 1 : Nat) : Int) = (N : Int) - (y : Int) - 1 := by omega
    rw [e2, e1]
    exact kp _ _ (fun q => P.fr _ (.head _) (by rw [q]; exact .head _)) hit'
  · intro σ s₁ m R E' hit S₁ P g hR
    refine wpAny_pyNext_range_end ok.hh hit (by simp) fun h' hs => hR _ (S₁.minor P h' s₁.toks fun c o hc e => hs c o (fun q => hc (by rw [q]; exact .head _)) e)

/-- two names take a tuple's items -/
theorem unpack2_sound {i j : Nat} {x y : Str} {px py tp : Pos} {k : _} {t : Addr} {a b : AV} {u v : Value} {R : Shared → Prop} {E : Value → Shared → Prop} (EO : EnvOK env sc L) (hh : A.handled = none) (hN : vars.Nodup) (hi : vars[i]? = some x) (hx : sc.names.lookup x = some .local)
    (hj : vars[j]? = some y) (hy : sc.names.lookup y = some .local) (S : St prog w base ((L, m) :: frs) os σ s) (lr : LR vars ρ m) (ht : s.heap.IsTuple t #[u, v]) (ha : VR a u) (hb : VR b v)
    (hR : ∀ m' s', St prog w base ((L, m') :: frs) os σ s' → LR vars ((ρ.set i a).set j b) m' → (∀ c o, c ≠ L → s.heap.get? c = some o → s'.heap.get? c = some o) → R s') :
    wpAny (model prog w) A (assign (.Tuple [.Name x px, .Name y py] k tp) env (.ref t)) (fun _ s₂ => R s₂) E s := by
  refine wpAny_assign_Tuple hh ht rfl rfl fun h' he => ?_
  have hk : ∀ c o, s.heap.get? c = some o → h'.get? c = some o := fun c o e => he c o (ne_of_there e) e
  have S₁ := S.grow h' s.toks hk
  show wpAny (model prog w) A (assignInOrder [assign (.Name x px) env, assign (.Name y py) env] [u, v]) _ _ _
  refine wpAny_assignInOrder_more (wpAny_assign_Name (store_sound EO S₁ lr hN hi hx ha fun m₁ s₁ S₂ lr₂ k₂ => ?_))
  refine wpAny_assignInOrder_more (wpAny_assign_Name (store_sound EO S₂ lr₂ hN hj hy hb fun m₂ s₂ S₃ lr₃ k₃ => wpAny_assignInOrder_none (hR m₂ s₂ S₃ lr₃ fun c o hc e => k₃ c o hc (k₂ c o hc (hk c o e)))))

theorem unpack3_sound {i j l : Nat} {x y z : Str} {px py pz tp : Pos} {k : _} {t : Addr} {a b c : AV} {u v q : Value} {R : Shared → Prop} {E : Value → Shared → Prop} (EO : EnvOK env sc L) (hh : A.handled = none) (hN : vars.Nodup) (hi : vars[i]? = some x) (hx : sc.names.lookup x = some .local)
    (hj : vars[j]? = some y) (hy : sc.names.lookup y = some .local) (hl : vars[l]? = some z) (hz : sc.names.lookup z = some .local) (S : St prog w base ((L, m) :: frs) os σ s) (lr : LR vars ρ m) (ht : s.heap.IsTuple t #[u, v, q]) (ha : VR a u) (hb : VR b v) (hc : VR c q)
    (hR : ∀ m' s', St prog w base ((L, m') :: frs) os σ s' → LR vars (((ρ.set i a).set j b).set l c) m' → R s') :
    wpAny (model prog w) A (assign (.Tuple [.Name x px, .Name y py, .Name z pz] k tp) env (.ref t)) (fun _ s₂ => R s₂) E s := by
  refine wpAny_assign_Tuple hh ht rfl rfl fun h' he => ?_
  have hk : ∀ c o, s.heap.get? c = some o → h'.get? c = some o := fun c o e => he c o (ne_of_there e) e
  have S₁ := S.grow h' s.toks hk
  show wpAny (model prog w) A (assignInOrder [assign (.Name x px) env, assign (.Name y py) env, assign (.Name z pz) env] [u, v, q]) _ _ _
  refine wpAny_assignInOrder_more (wpAny_assign_Name (store_sound EO S₁ lr hN hi hx ha fun m₁ s₁ S₂ lr₂ k₂ => ?_))
  refine wpAny_assignInOrder_more (wpAny_assign_Name (store_sound EO S₂ lr₂ hN hj hy hb fun m₂ s₂ S₃ lr₃ k₃ => ?_))
  exact wpAny_assignInOrder_more (wpAny_assign_Name (store_sound EO S₃ lr₃ hN hl hz hc fun m₃ s₃ S₄ lr₄ k₄ => wpAny_assignInOrder_none (hR m₃ s₃ S₄ lr₄)))

noncomputable def zipKs (z : Nat) : List Addr := [z + 4, z + 2, z + 3, z, z + 1]
structure ZipI (z l1 l2 i : Nat) (h : Heap) : Prop where
  a1 : IsZip h (z + 4) (z + 2) (z + 3) .none
  a2 : IsPair h (z + 2) (.ref z) (.ref (z + 1))
  a3 : ∃ a b, IsPair h (z + 3) a b
  a4 : h.IsListIter z l1 i
  a5 : h.IsListIter (z + 1) l2 i
section
variable {z l1 l2 i : Nat} {h h' : Heap}
theorem zm4 : z + 4 ∈ zipKs z := .head _
theorem zm2 : z + 2 ∈ zipKs z := .tail _ (.head _)
theorem zm3 : z + 3 ∈ zipKs z := .tail _ (.tail _ (.head _))
theorem zm0 : z ∈ zipKs z := .tail _ (.tail _ (.tail _ (.head _)))
theorem zm1 : z + 1 ∈ zipKs z := .tail _ (.tail _ (.tail _ (.tail _ (.head _))))
theorem zip_all {P : Nat → Prop} (p4 : P (z + 4)) (p2 : P (z + 2)) (p3 : P (z + 3)) (p0 : P z) (p1 : P (z + 1)) : ∀ k ∈ zipKs z, P k := fun k hk => by
  simp only [zipKs, List.mem_cons, List.not_mem_nil, or_false] at hk
  rcases hk with rfl | rfl | rfl | rfl | rfl
  · exact p4
  · exact p2
  · exact p3
  · exact p0
  · exact p1
theorem ZipI.kinds (I : ZipI z l1 l2 i h) : ∀ k ∈ zipKs z, ∃ o, h.get? k = some o ∧ PinOb o := by
  obtain ⟨a1, a2, ⟨a, b, a3⟩, ⟨o4, a4, _, d4⟩, ⟨o5, a5, _, d5⟩⟩ := I
  exact zip_all ⟨_, a1, .inl ⟨_, rfl⟩⟩ ⟨_, a2, .inr ⟨rfl, _, _, rfl⟩⟩ ⟨_, a3, .inr ⟨rfl, _, _, rfl⟩⟩ ⟨_, a4, .inl ⟨_, d4⟩⟩ ⟨_, a5, .inl ⟨_, d5⟩⟩
theorem ZipI.keeps (I : ZipI z l1 l2 i h) (kp : ∀ k ∈ zipKs z, ∀ o, h.get? k = some o → h'.get? k = some o) : ZipI z l1 l2 i h' :=
  ⟨kp _ zm4 _ I.a1, kp _ zm2 _ I.a2, I.a3.imp fun _ => Exists.imp fun _ a => kp _ zm3 _ a, I.a4.at fun o e => kp _ zm0 o e, I.a5.at fun o e => kp _ zm1 o e⟩
end
theorem forZip_sound {i j : Nat} {x y : Str} {px py tp : Pos} {kk : _} {l1 l2 : Nat} {xs ys : List AV} (cx : Cx K base mg mb) (EO : EnvOK env sc L) (ok : Ok n A env outer L m frs) (hb : BkAt prog w os K mg mb sc vars C n body a)
    (hN : vars.Nodup) (hi : vars[i]? = some x) (hx : sc.names.lookup x = some .local) (hj : vars[j]? = some y) (hy : sc.names.lookup y = some .local) (S : St prog w base ((L, m) :: frs) os σ s) (lr : LR vars ρ m)
    (hl1 : σ l1 = some (.list xs)) (hl2 : σ l2 = some (.list ys)) (hlen : xs.length = ys.length)
    (h : forN (fun σ' => σ' l1 = some (.list xs) ∧ σ' l2 = some (.list ys)) (fun (p : AV × AV) ρ => (ρ.set i p.1).set j p.2) (fun ρ σ q => swp C a ρ σ q E) Q (xs.zip ys) ρ σ) :
    wpAny (model prog w) A (call (.type "zip") [.ref l1, .ref l2]) (fun zv s₁ => wpAny (model prog w) A (pyIter zv) (fun it s₂ => codeAny (model prog w) A (.forLoop (.Tuple [.Name x px, .Name y py] kk tp) it body [] env) (fun r s' => match r with | .ok f => FQ prog w base os L frs vars Q f s' | .error e => cameBackBy (model prog w) A env (XE prog w base L frs os E) e s') s₂) (XE prog w base L frs os E) s₁) (XE prog w base L frs os E) s := by
  obtain ⟨_, ⟨vs, k1, q1, q2⟩, _⟩ := S.ob _ _ hl1
  obtain ⟨_, ⟨us, k2, p1, p2⟩, _⟩ := S.ob _ _ hl2
  refine call_zip_2 (xs := vs) (ys := us) ⟨_, q1, rfl, k1, rfl⟩ ⟨_, p1, rfl, k2, rfl⟩ fun h' z1 z2 z3 z4 z5 zs zk => ?_
  refine wpAny_pyIter_zip z1 ?_
  have n1 : ∀ d, l1 ≠ s.heap.objs.size + d := fun d => Nat.ne_of_lt (Nat.lt_of_lt_of_le (Heap.lt_size q1) (Nat.le_add_right _ _))
  have n2 : ∀ d, l2 ≠ s.heap.objs.size + d := fun d => Nat.ne_of_lt (Nat.lt_of_lt_of_le (Heap.lt_size p1) (Nat.le_add_right _ _))
  have D : ZipApart (s.heap.objs.size + 4) (s.heap.objs.size + 2) (s.heap.objs.size + 3) s.heap.objs.size (s.heap.objs.size + 1) l1 l2 := by
    constructor <;> first | exact n1 _ | exact n2 _ | exact n1 0 | exact n2 0 | (show (_ : Nat) ≠ _; omega)
  have I0 : ZipI s.heap.objs.size l1 l2 0 h' := ⟨z1, z2, ⟨_, _, z3⟩, z4, z5⟩
  refine for_core (ks := zipKs s.heap.objs.size) cx EO ok hb (fun i h => ZipI s.heap.objs.size l1 l2 i h) (fun i h I => I.kinds) (fun i h h' I kp => I.keeps kp) ?_ ?_ (S.grow _ s.toks zk) lr (S.newPins cx (zip_all ?_ ?_ ?_ ?_ ?_) I0.kinds) I0 h
  · rintro g ⟨u, v⟩ σ s₁ m ρ R E' hy' I S₁ P ⟨g1, g2⟩ lr₁ hR
    rw [List.getElem?_zip_eq_some] at hy'
    obtain ⟨_, ⟨vs, k1, q1, q2⟩, _⟩ := S₁.ob _ _ g1
    obtain ⟨_, ⟨us, k2, p1, p2⟩, _⟩ := S₁.ob _ _ g2
    obtain ⟨v1, hv1, hr1⟩ := q2.get hy'.1
    obtain ⟨v2, hv2, hr2⟩ := p2.get hy'.2
    obtain ⟨a, b, a3⟩ := I.a3
    refine wpAny_pyNext_zip_item D I.a1 I.a2 a3 I.a4 I.a5 (xs := vs) (ys := us) ⟨_, q1, rfl, k1, rfl⟩ ⟨_, p1, rfl, k2, rfl⟩ (Array.getElem?_toList.symm.trans hv1) (Array.getElem?_toList.symm.trans hv2) fun h₁ b1 b2 b3 b4 b5 b6 bk => ?_
    refine wpAny_letOwnedTupleGo_zip b1 fun h₂ c1 cs => ?_
    have ck : ∀ c o, c ≠ s.heap.objs.size + 4 → h₁.get? c = some o → h₂.get? c = some o := fun c o hc e => cs.extBut c o hc e
    have S₂ := S₁.minor P h₂ s₁.toks fun c o hc e => ck _ _ (fun q => hc (q ▸ zm4)) (bk c o (fun q => hc (q ▸ zm4)) (fun q => hc (q ▸ zm3)) (fun q => hc (q ▸ zm0)) (fun q => hc (q ▸ zm1)) e)
    have hT : s₁.heap.objs.size ≠ s.heap.objs.size + 4 := fun q => by
      obtain ⟨o, e, _⟩ := P.ob (s.heap.objs.size + 4) zm4
      exact ne_of_there e q.symm
    have hLne : ∀ k ∈ zipKs s.heap.objs.size, k ≠ L := fun k hk q => P.fr k hk (by rw [q]; exact .head _)
    refine unpack2_sound EO ok.hh hN hi hx hj hy S₂ lr₁ ⟨_, ck _ _ hT b5, rfl, 0, rfl⟩ hr1 hr2 fun m' s' S' lr' kp => hR m' s' ?_ S' lr'
    exact ⟨kp _ _ (hLne _ zm4) c1, kp _ _ (hLne _ zm2) (ck _ _ D.TIz (bk _ _ D.TIz D.TITO D.TIi1 D.TIi2 I.a2)), ⟨_, _, kp _ _ (hLne _ zm3) (ck _ _ D.TOz b2)⟩, b3.at fun o e => kp _ o (hLne _ zm0) (ck _ _ D.i1z e), b4.at fun o e => kp _ o (hLne _ zm1) (ck _ _ D.i2z e)⟩
  · rintro σ s₁ m R E' I S₁ P ⟨g1, g2⟩ hR
    obtain ⟨_, ⟨vs, k1, q1, q2⟩, _⟩ := S₁.ob _ _ g1
    obtain ⟨_, ⟨us, k2, p1, p2⟩, _⟩ := S₁.ob _ _ g2
    obtain ⟨a, b, a3⟩ := I.a3
    refine wpAny_pyNext_zip_end ok.hh D I.a1 I.a2 a3 I.a4 I.a5 (xs := vs) (ys := us) ⟨_, q1, rfl, k1, rfl⟩ ⟨_, p1, rfl, k2, rfl⟩ (.inl ?_) fun h₁ bk => hR _ (S₁.minor P h₁ s₁.toks fun c o hc e => bk c o (fun q => hc (q ▸ zm4)) (fun q => hc (q ▸ zm3)) (fun q => hc (q ▸ zm0)) (fun q => hc (q ▸ zm1)) e)
    have := q2.length
    rw [List.length_zip, ← hlen, Nat.min_self, this, Array.length_toList]
    exact Array.getElem?_eq_none (Nat.le_refl _)
  all_goals omega
end Nm
end

section
open PySem PySem.W PySem.Calls PyProof.Rows Builtin Builtin.ObjectAttr
set_option tactic.hygienic false
set_option maxRecDepth 100000
set_option maxHeartbeats 4000000
namespace Nm

theorem ns_other {h h' : Heap} {a e : Addr} {m : Str → Option Value} (x : h.Ns a m) (hne : a ≠ e) (hk : ∀ b o, b ≠ e → h.get? b = some o → h'.get? b = some o) : h'.Ns a m :=
  let ⟨o, es, ep, ho, r⟩ := x; ⟨o, es, ep, hk _ _ hne ho, r⟩

section
variable {prog : Program} {w : World} {base : Heap} {frs : Frs} {os : OsState} {σ : AH} {s : Shared} {A : Around} {K : Frag} {mg mb : Str → Option Value} {R : Result → Shared → Prop}

theorem exc_init {e t0 : Addr} {va vb : Value} {Q : Value → Shared → Prop} {E : Value → Shared → Prop} (cx : Cx K base mg mb) (FF : FaultFn K) (hst : base.StaysIn s.heap) (hroom : A.depth < recursionLimit) (heb : base.get? e = none)
    (he : s.heap.get? e = some { cls := .ref cAF, data := .fields #[.ref t0, .none, .none, .none, .bool false, .none] })
    (hQ : ∀ h' tk d t, (∀ b o, b ≠ e → s.heap.get? b = some o → h'.get? b = some o) → h'.get? e = some { cls := .ref cAF, dict := some d, data := .fields #[.ref t, .none, .none, .none, .bool false, .none] } → Q .none { s with heap := h', toks := tk }) :
    wpAny (model prog w) A (call (.ref 56) [.ref e, va, vb]) Q E s := by
  have X := cx.kin.keeps hst
  obtain ⟨x, hC, _⟩ := cx.kf.exc
  obtain ⟨o, ho, hdo⟩ := isFnAt_inv FF.p.isf
  have FB := PySem.F.excBase_Exception
  have EK := FF.ek
  refine and3 FF.p.kd fun hco hgen hk => ?_
  have hk := beq_iff_eq.mp hk
  refine wpAny_call (codeAny_call_def hroom (X _ _ ho) hdo (cx.lim.imp fun mc h => ⟨h.1.keeps hst, h.2⟩) (codeRec_of X FF.p.cd) FF.stm (BindsTo.of_eq (FF.bind _ _ _)) (noCell FF.p.cell) (fun x hx => ?_) (fun h₀ hns hk₀ => ?_) (not1 hco) (not1 hgen) hk)
  · simp only [List.mem_cons, List.not_mem_nil, or_false] at hx
    rcases hx with rfl | rfl | rfl
    · exact FF.l0
    · exact FF.l1
    · exact FF.l2
  rw [callEnv_of FF.p.gl]
  have F : Fr s.heap s.heap.objs.size h₀ _ := ⟨hns, hk₀, Nat.le_refl _⟩
  have m0 : [(("self" : Str), Value.ref e), (("word" : Str), va), (("line" : Str), vb)].reverse.lookup ("self" : Str) = some (.ref e) := rfl
  have m1 : [(("self" : Str), Value.ref e), (("word" : Str), va), (("line" : Str), vb)].reverse.lookup ("word" : Str) = some va := rfl
  have m2 : [(("self" : Str), Value.ref e), (("word" : Str), va), (("line" : Str), vb)].reverse.lookup ("line" : Str) = some vb := rfl
  have X₀ := X.keeps hk₀
  have he₀ := hk₀ _ _ he
  have hne : e ≠ s.heap.objs.size := ne_of_there he
  have hsz : s.heap.objs.size < h₀.objs.size := hns.lt
  -- the base's own maker
  refine wpAny_execs_cons (wpAny_mono (Q := fun f s' => f = .next ∧ ∃ h₁ t₁ tk, s' = { s with heap := h₁, toks := tk } ∧ (∀ b o, b ≠ e → h₀.get? b = some o → h₁.get? b = some o) ∧ h₁.get? e = some { cls := .ref cAF, data := .fields #[.ref t₁, .none, .none, .none, .bool false, .none] }) (E := fun _ _ => False) ?_ (fun f s' z => ?g1) fun _ _ x => x.elim)
  case g1 =>
    obtain ⟨rfl, h₁, t₁, tk, rfl, kp₁, he₁⟩ := z
    have X₁ : K.In h₁ := fun b o q => kp₁ b o (fun q2 => by subst q2; rw [cx.kin _ _ q] at heb; cases heb) (X₀ b o q)
    have F₁ : Fr (hideAll s.heap [e]) s.heap.objs.size h₁ _ := ⟨ns_other hns hne.symm kp₁, fun b o q => kp₁ b o (fun q2 => by rw [q2, hideAll_none _ (.head _)] at q; cases q) (hk₀ b o (of_hideAll _ q)), by rw [hideAll_size]; exact Nat.le_refl _⟩
    refine wpAny_execs_cons (plainObj_wpAny_Assign_Attribute (ld F₁ m1 (ld F₁ m0 ?_ hk FF.l0 (by decide)) hk FF.l1 (by decide)))
    refine exc_first X₁ EK he₁ EK.word fun h₂ dx hs tk₀ tk₂ n kp₂ he₂ hdx hat₂ => ?_
    have X₂ : K.In h₂ := fun b o q => kp₂ b o (fun q2 => by subst q2; rw [cx.kin _ _ q] at heb; cases heb) (X₁ b o q)
    have F₂ : Fr (hideAll s.heap [e]) s.heap.objs.size h₂ _ := ⟨ns_other F₁.ns hne.symm kp₂, fun b o q => kp₂ b o (fun q2 => by rw [q2, hideAll_none _ (.head _)] at q; cases q) (F₁.keep b o q), F₁.above⟩
    refine wpAny_execs_cons (plainObj_wpAny_Assign_Attribute (ld F₂ m2 (ld F₂ m0 ?_ hk FF.l0 (by decide)) hk FF.l2 (by decide)))
    have hld : (getL ("line" : Str) [⟨hs, .str "word" tk₀, va⟩]).isSome = true := rfl
    refine exc_next X₂ EK he₂ hat₂ EK.line hld (by simp) fun h₃ tk₃ kp₃ => wpAny_execs_nil ?_
    have hde : dx ≠ e := fun q => by rw [q, he₁] at hdx; cases hdx
    refine hQ h₃ tk₃ dx t₁ (fun b o hb q => kp₃ b o (fun q2 => ?_) (kp₂ b o hb (kp₁ b o hb (hk₀ b o q)))) (kp₃ _ _ hde.symm he₂)
    rw [q2] at q hb
    rw [kp₁ _ _ hb (hk₀ _ _ q)] at hdx; cases hdx
  · refine wpAny_Expr_any ?_ (by simp [interactive, envOf, hk]) rfl
    refine MethodCall_ (he := mcall_eq rfl FF.en rfl) ?_
    refine Name_function_global hk FF.l3 (loadGlobal_builtin (mg := mg) (mb := mb) (cx.g.keeps fun b o q => hk₀ b o (hst b o q)) (mg_none_of cx.kin cx.g FF.ns) (cx.b.keeps fun b o q => hk₀ b o (hst b o q)) ((cx.bi _ (by decide)).trans (show bootBuiltins "Exception" = some (.type "Exception") by decide +kernel)) ?_) (by decide)
    refine method_type F X (by kernel_rfl) (by decide +kernel) FF.fc rfl ?_
    refine PyProof.Rows.callWith_builtin1 (spliced_more (ld F m0 (spliced_more (ld F m1 (spliced_none ?_) hk FF.l1 (by decide)) rfl) hk FF.l0 (by decide)) rfl) rfl rfl
    have C0 := X₀ _ _ hC
    refine wpAny_call (codeAny_call_builtin FB.init.plain FB.initEntry (wpAny_check_init_subU FB .base C0 he₀ rfl ?_))
    have he1 : (h₀.push { cls := .type "tuple", data := .seq [va].toArray }).get? e = some { cls := .ref cAF, data := .fields #[.ref t0, .none, .none, .none, .bool false, .none] } := Heap.get?_push_of_some _ he₀
    wp_walk
    refine ⟨rfl, _, h₀.objs.size, _, rfl, fun b o hb q => (Heap.get?_update_other _ _ (Ne.symm hb)).trans (Heap.get?_push_of_some _ q), ?_⟩
    exact Heap.get?_update_self (Obj.mapFields fun x => x.setIfInBounds 0 (Value.ref h₀.objs.size)) he1 rfl

set_option tactic.hygienic true in
theorem ns_some_of {h : Heap} {N : Addr} {n : Str} {v : Value} (X : K.In h) (hok : nsOkIn K N = true) (e : nsIn K N n = some (some v)) : h.nsMap N n = some v := by
  have G : h.Ns N (h.nsMap N) := .of_isNs (isNs_of_in X hok)
  obtain ⟨o, es, ep, ho, hd, _, hf⟩ := G
  unfold nsIn at e
  cases q : K.lookup N with
  | none => rw [q] at e; cases e
  | some o' =>
    have := X _ _ q
    rw [ho] at this
    cases this
    rw [q] at e
    obtain ⟨c, dd, da, sl⟩ := o
    cases hd
    have e : (match es.toList.find? (fun en => en.key.isStr n) with | some en => some (some en.val) | none => if es.toList.any (·.refKey) then none else some none) = some (some v) := e
    cases he : es.toList.find? (fun en => en.key.isStr n) with
    | some en =>
      rw [he] at e
      cases e
      rw [← hf]
      unfold nsFind findBy
      rw [← Array.find?_toList, he]
      rfl
    | none =>
      rw [he] at e
      cases hr : es.toList.any (·.refKey) with
      | true => rw [hr] at e; cases e
      | false => rw [hr] at e; cases e

theorem raise_exc {env : Env} {nm q : Str} {N : Addr} {bs bm : List Value} {hdct : Bool} {sn : List Str} {sub : List Value} {ab : Bool} {col : Option Bool} {dd : Option Addr} {k0 k1 k2 k3 k5 : Option Value} {newId : String} {E : Value → Shared → Prop} {x : Sem Value} {Q : Flow → Shared → Prop} (hbase : bm.contains (.type "BaseException") = true) (hh : A.handled = none)
    (h : wpAny (model prog w) A x (fun v s₁ => ∃ e d t, v = .ref e ∧ s₁.heap.get? cAF = some (excClassObj nm q cAF N bs bm hdct sn sub ab col dd k0 k1 k2 k3 k5 newId) ∧
      s₁.heap.get? e = some { cls := .ref cAF, dict := some d, data := .fields #[.ref t, .none, .none, .none, .bool false, .none] } ∧ E (.ref e) s₁) E s) :
    wpAny (model prog w) A (raiseStmt env (some x) none) Q E s := by
  have hcB : (Value.ref cAF :: bm).contains (.type "BaseException") = true := by rw [List.contains_cons, hbase, Bool.or_true]
  unfold raiseStmt
  refine wpAny_bind (wpAny_mono h (fun v s₁ h₁ => ?_) fun _ _ x => x)
  obtain ⟨e, d, t, rfl, hC, he, hE⟩ := h₁
  obtain ⟨hp, g, d', tk, os⟩ := s₁
  repeat (first | with_reducible refine wpAny_loadPart_at he ?_ | with_reducible refine wpAny_loadPart_at hC ?_ | (with_reducible refine wpAny_isSubtype_exc hC ?_; rw [hcB]) | wp_step)
  exact wpAny_raiseNew_none hh hE

/-- the fault is made -/
theorem exc_make {va vb : Value} {Q : Value → Shared → Prop} {E : Value → Shared → Prop} (cx : Cx K base mg mb) (hst : base.StaysIn s.heap) (hroom : A.depth + 2 < recursionLimit)
    (hQ : ∀ h' tk e d t, (∀ b o, s.heap.get? b = some o → h'.get? b = some o) → s.heap.get? e = none → h'.get? e = some { cls := .ref cAF, dict := some d, data := .fields #[.ref t, .none, .none, .none, .bool false, .none] } → Q (.ref e) { s with heap := h', toks := tk }) :
    wpAny (model prog w) A (call (.ref cAF) [va, vb]) Q E s := by
  obtain ⟨x, hC, hini, hok⟩ := cx.kf.exc
  have X := cx.kin.keeps hst
  have FF := cx.kf.ff
  obtain ⟨o, ho, _⟩ := isFnAt_inv FF.p.isf
  have hoc : o.cls = .type "function" := by have := FF.cls; rw [ho] at this; exact Option.some.inj this
  obtain ⟨h, g, d, tk, os'⟩ := s
  refine wpAny_call_exc_init PySem.F.excBase_Exception (X _ _ hC) (.of_isNs (isNs_of_in X hok)) (ns_some_of X hok hini) (X _ _ ho) hoc (fun h₁ e hm => ?_)
  obtain ⟨t, he, ht, _⟩ := hm.there
  have hw : (Code.builtin "type.__call__" ⟨.ref cAF :: [va, vb], []⟩).weight = 0 ∨ (Code.builtin "type.__call__" ⟨.ref cAF :: [va, vb], []⟩).weight = 1 := by first | exact .inl rfl | exact .inr rfl
  have heb : base.get? e = none := by
    cases q2 : base.get? e with
    | none => rfl
    | some o => have := hm.new; rw [hst _ _ q2] at this; cases this
  refine exc_init cx FF (fun b o e => hm.keeps b o (hst b o e)) (by show A.depth + _ < recursionLimit; rcases hw with e | e <;> rw [e] <;> omega) heb he fun h₂ tk₂ dx t₂ kp he₂ => ⟨rfl, hQ h₂ tk₂ e dx t₂ (fun b o q2 => kp b o (fun q3 => by have := hm.new; rw [← q3, q2] at this; cases this) (hm.keeps b o q2)) hm.new he₂⟩
end
end Nm
end

section
open PySem PySem.W PySem.Calls PyProof.Rows
set_option tactic.hygienic false
set_option maxRecDepth 100000
namespace Nm

variable {prog : Program} {w : World} {base base' : Heap} {frs : Frs} {os : OsState} {σ : AH} {s : Shared} {A : Around} {K : Frag} {mg mb : Str → Option Value} {ks : List Addr}
variable {sc : Scope} {vars : List Str} {C : CallT} {n : Nat} {body : List Stmt} {a : AS} {env : Env} {outer : List Env} {L : Addr} {m : Str → Option Value} {ρ : List AV}

theorem swap_none {v : PySem.Expr} (h : notSwap v = true) (t : Option PySem.Expr) (l : Nat) : swapsWith v t l env = pure false := by
  cases v <;> first | rfl | cases h

theorem swap_sole {v : PySem.Expr} (h : notSwap v = true) (t : PySem.Expr) (l : Nat) : swapsWithSole [t] v l env = pure false := swap_none h (some t) l

theorem setItem_exact {l : Addr} {items : Array Value} {n : Nat} {k : Int} {t : Tok} {v : Value} {E : Value → Shared → Prop} {Q : Unit → Shared → Prop} (hl : IsL s.heap l items n) (h0 : 0 ≤ k) (hfit : k < 2 ^ 63) (hn : k < items.size)
    (hQ : Q () { s with heap := s.heap.update l (Obj.mapSeq (·.setIfInBounds k.toNat v)) }) : wpAny (model prog w) A (setItem (.ref l) (.int k t) v) Q E s := by
  have hT : s.TypeIs (.ref l) "list" := ⟨_, hl, rfl⟩
  unfold setItem
  try with_reducible refine wpAny_holding ?_
  first | refine wpAny_bind (wpAny_pure ?_) | skip
  refine wpAny_bind (wpAny_sequenceKey hT (by decide) ?_)
  refine wpAny_bind (wpAny_callSpecial?_slot (name := Str.ofString "__setitem__") hT slot_list_setitem (wpAny_call_entry slot_list_setitem hT entry_list_setitem ?_ (args_list_setitem _ _ _)))
  show wpAny _ _ (Builtin.List.listSubscript? (.int k t) >>= _) _ _ s
  refine wpAny_bind (wpAny_listSubscript_int (fitsIndex_of h0 hfit) ?_)
  obtain ⟨j, rfl⟩ := Int.eq_ofNat_of_zero_le h0
  have hj : j < items.size := by omega
  show wpAny _ _ ((seqItemAt l j >>= fun r => pure (r.map (j, ·))) >>= _) _ _ s
  refine wpAny_bind (wpAny_bind (wpAny_seqItemAt hl rfl (wpAny_pure ?_)))
  rw [Array.getElem?_eq_getElem hj]
  show wpAny _ _ (setSeqItemAt l j v >>= _) _ _ s
  refine wpAny_bind (wpAny_setSeqItemAt hl rfl ?_)
  first
    | exact wpAny_bind (wpAny_pure (wpAny_pure ⟨.none, rfl, wpAny_pure hQ⟩))
    | exact wpAny_pure ⟨.none, rfl, wpAny_pure hQ⟩

theorem setIdx_sound {t : Nat} {k : Int} {tk : Tok} {xs : List AV} {x : AV} {v : Value} {E : Value → Shared → Prop} {R : Shared → Prop} (S : St prog w base frs os σ s) (ht : σ t = some (.list xs)) (h0 : 0 ≤ k) (h1 : k < 1000) (h2 : k < xs.length) (hv : VR x v)
    (hR : ∀ s', St prog w base frs os (σ.set t (.list (xs.set k.toNat x))) s' → R s') : wpAny (model prog w) A (setItem (.ref t) (.int k tk) v) (fun _ s' => R s') E s := by
  obtain ⟨hf, ⟨vs, n, q1, q2⟩, hb⟩ := S.ob _ _ ht
  have hl : xs.length = vs.size := q2.length.trans Array.length_toList
  refine setItem_exact q1 h0 (by omega) (by omega) (hR _ (S.turn (o := .list _) _ s.toks (fun b ob nb eb => (Heap.get?_update_other _ _ (Ne.symm nb)).trans eb) hb hf (fun ob es m q => by rw [q1] at q; cases q; exact (fun x => nomatch x)) ⟨hf, ⟨vs.setIfInBounds k.toNat v, n, ?_, ?_⟩, hb⟩))
  · refine (Heap.get?_update_self _ q1 rfl).trans ?_
    simp [Obj.mapSeq]
  · rw [Array.toList_setIfInBounds]; exact q2.set hv

theorem fault_sound {i : Nat} {y : Str} {np kp yp cp pos : Pos} {ki : _} {ms : Str} {Q : Flow → Shared → Prop} {E : AH → Prop} (cx : Cx K base mg mb) (EO : EnvOK env sc L) (ok : Ok n A env outer L m frs)
    (S : St prog w base ((L, m) :: frs) os σ s) (lr : LR vars ρ m) (hx : gl sc "AssemblyFault" = true) (hy : vars[i]? = some y) (hl : sc.names.lookup y = some .local) (hd : (y == ("__debug__" : Str)) = false) (hb : ρ.getD i .unb ≠ .unb) (hE : E σ) :
    wpAny (model prog w) A (exec (.Raise (some (.Call (.Name "AssemblyFault" np) [.Constant (.str ms) ki kp, .Name y yp] [] cp)) none pos) env) Q (XE prog w base L frs os E) s := by
  have hv : ∃ v, m y = some v := by
    have hlt : i < ρ.length := by rw [lr.1]; exact (List.getElem?_eq_some_iff.mp hy).1
    have e1 : ρ[i]? = some (ρ.getD i .unb) := by simp [List.getD, List.getElem?_eq_getElem hlt]
    obtain ⟨u, h1, _⟩ := lr.2 i y _ hy e1 hb
    exact ⟨u, h1⟩
  obtain ⟨v, hv⟩ := hv
  obtain ⟨xx, hC, hini, hok⟩ := cx.kf.exc
  rw [arm_exec_Raise]
  refine wpAny_bind (wpAny_standAt (raise_exc (nm := xx.nm) (q := xx.q) (N := xx.N) (bs := xx.bs) (bm := [.type "Exception", .type "BaseException", .type "object"]) (hdct := xx.hdct) (sn := xx.sn) (sub := xx.sub) (ab := xx.ab) (col := xx.col) (dd := xx.dd) (k0 := xx.k0) (k1 := xx.k1) (k2 := xx.k2) (k3 := xx.k3) (k5 := xx.k5) (newId := "Exception.__new__") (by decide) ok.hh ?_))
  refine wpAny_bind (wpAny_mono (Q := fun v s₁ => ∃ e d t, v = .ref e ∧ s₁.heap.get? cAF = some xx.obj ∧
      s₁.heap.get? e = some { cls := .ref cAF, dict := some d, data := .fields #[.ref t, .none, .none, .none, .bool false, .none] } ∧ XE prog w base L frs os E (.ref e) s₁) ?_ (fun v s₁ z => wpAny_bind (wpAny_standAt (wpAny_pure z))) fun _ _ x => x)
  refine Call_ (ldG cx EO S hx cx.kf.cls.2.2.2.2.1 ?_)
  refine callWith_K cx.kin cx.kf.cls.2.2.2.2.2 (spliced_more (wpAny_Constant_str (spliced_more (ldL (n := n) (outer := outer) EO (S.toks _) hl hd hv (spliced_none ⟨cx.kin.keeps S.stays, ?_⟩)) rfl)) rfl) rfl rfl
  refine exc_make (s := { s with toks := s.toks + 1 }) cx S.stays (by have := ok.dep; omega) fun h' tk e d t kp hnew he => ?_
  have S' := S.grow h' tk kp
  refine ⟨e, d, t, rfl, (cx.kin.keeps S'.stays) _ _ hC, he, e, σ, m, rfl, S', .inl ⟨(S.free hnew).2.2, _, _, _, he, rfl, rfl, rfl, rfl⟩, hE⟩

/-- the handler that gives none -/
theorem handler_ok {np hp rp kp : Pos} {ki : _} {E : AH → Prop} {Q : SQ} {e : Addr} (cx : Cx K base mg mb) (EO : EnvOK env sc L) (ok : Ok n A env outer L m frs) (S₁ : St prog w base ((L, m) :: frs) os σ s) (X : XS base s.heap L e) (hlen : ρ.length = vars.length) (hx : gl sc "AssemblyFault" = true)
    (hq : Q (.ret .none) (List.replicate ρ.length .unb) σ) : wpAny (model prog w) A (noteFrame (.ref e) env) (fun _ s₂ => wpAny (model prog w) A (setFlight (.ref e) none) (fun _ s₃ => wpAny (model prog w) A (handleBy (.ref e) env [.ExceptHandler (some (.Name "AssemblyFault" np)) none [.Return (some (.Constant .none ki kp)) rp] hp])
      (FQ prog w base os L frs vars Q) (XE prog w base L frs os E) s₃) (XE prog w base L frs os E) s₂) (XE prog w base L frs os E) s := by
  refine note_any ok.fr ok.ea S₁ X fun s₂ S₂ X₂ => ?_
  refine flight (f := none) S₂ X₂ fun s₃ S₃ X₃ => ?_
  have X₄ := X₃
  obtain ⟨hen, a0, oe, vs, T, oT, ts, he, hc, _⟩ := X₃
  obtain ⟨x, hC, _, _⟩ := cx.kf.exc
  refine wpAny_handleBy_cons (codeAny_handlers_test (ldG cx EO S₃ hx cx.kf.cls.2.2.2.2.1 ?_)) nofun
  have hC' := (cx.kin.keeps S₃.stays) _ _ hC
  obtain ⟨hh, g, d, tk, os'⟩ := s₃
  refine wpAny_excMatches_sub_self hC' he hc.1 (by decide) (codeAny_handlers_suite ?_)
  refine flight (f := none) S₃ X₄ fun s₄ S₄ X₅ => ?_
  refine wpAny_execs_cons (wpAny_Return_some ?_)
  refine wpAny_Constant_none ⟨.ret .none, List.replicate ρ.length .unb, σ, m, ⟨_, rfl, rfl⟩, S₄, ⟨by rw [List.length_replicate]; exact hlen, fun i x v _ hv hu => ?_⟩, hq⟩
  exact (hu (List.eq_of_mem_replicate (List.mem_of_getElem? hv))).elim
/-- the end of the body of a try -/
theorem try_end {E : AH → Prop} {Q : SQ} {f : Flow} (h : FQ prog w base os L frs vars Q f s) : (match (generalizing := false) f with | .next => wpAny (model prog w) A (execs [] env) (FQ prog w base os L frs vars Q) (XE prog w base L frs os E) s | f => FQ prog w base os L frs vars Q f s) := by
  have h' := h
  obtain ⟨o, ρ₁, σ₁, m₁, hf, _⟩ := h'
  cases o with
  | next => cases hf; exact wpAny_execs_nil h
  | ret v => obtain ⟨u, rfl, hv⟩ := hf; exact h
theorem try_sound {np hp rp kp pos : Pos} {ki : _} {E : AH → Prop} {Q : SQ} (cx : Cx K base mg mb) (EO : EnvOK env sc L) (ok : Ok n A env outer L m frs) (hb : BkAt prog w os K mg mb sc vars C n body a)
    (S : St prog w base ((L, m) :: frs) os σ s) (lr : LR vars ρ m) (hx : gl sc "AssemblyFault" = true) (h : swp C (.tryF a (.seq (.ret .none) .skip)) ρ σ Q E) :
    wpAny (model prog w) A (exec (.Try body [.ExceptHandler (some (.Name "AssemblyFault" np)) none [.Return (some (.Constant .none ki kp)) rp] hp] [] [] pos) env) (FQ prog w base os L frs vars Q) (XE prog w base L frs os E) s := by
  refine wpAny_Try_except (wpAny_mono (hb base A env outer L m frs σ s ρ _ _ cx EO ok S lr h) (fun f s₁ q => try_end q) fun e s₁ ⟨e', σ₁, m₁, ex, S₁, X, hq⟩ => ?_)
  subst ex
  exact handler_ok cx EO (ok.any (m' := m₁)) S₁ X lr.1 hx hq

theorem ready {a : AE} {e : PySem.Expr} (env : Env) (x : Value) : foldedSetIterable (reE a e) env x = pure x := by
  cases a <;> rfl

theorem arr2 {a b : AV} {vs : Array Value} (h : VRs [a, b] vs.toList) : ∃ v1 v2, vs = #[v1, v2] ∧ VR a v1 ∧ VR b v2 := by
  obtain ⟨l⟩ := vs
  cases l with
  | nil => exact h.elim
  | cons v l => cases l with
    | nil => exact h.2.elim
    | cons u l => cases l with
      | nil => exact ⟨v, u, rfl, h.1, h.2.1⟩
      | cons _ _ => exact h.2.2.elim
theorem arr3 {a b c : AV} {vs : Array Value} (h : VRs [a, b, c] vs.toList) : ∃ v1 v2 v3, vs = #[v1, v2, v3] ∧ VR a v1 ∧ VR b v2 ∧ VR c v3 := by
  obtain ⟨l⟩ := vs
  cases l with
  | nil => exact h.elim
  | cons v l =>
    obtain ⟨u, w, e, h2, h3⟩ := arr2 (vs := ⟨l⟩) h.2
    cases e
    exact ⟨v, u, w, rfl, h.1, h2, h3⟩
noncomputable def swN (env : Env) (line : Nat) : PySem.Expr → Option Str
  | .Name id pos => if env.kindOf id == some .local && pos.line == line then some id else none
  | _ => none
theorem noSt_any {vs : List PySem.Expr} (h : vs.all notSt = true) : vs.any (fun | .Starred .. => true | _ => false) = false := by
  induction vs with
  | nil => rfl
  | cons v vs ih =>
    have h := and2 (show (notSt v && vs.all notSt) = true from h)
    rw [List.any_cons, ih h.2, Bool.or_false]
    cases v <;> first | rfl | exact (Bool.false_ne_true h.1).elim
theorem swapped_gen {ts : List PySem.Expr} {xs : List Str} {k k' : Nat} {tp p' : Pos} {vs : List PySem.Expr} (h1 : (ts.length == 2 || ts.length == 3) = true) (h2 : vs.length = ts.length) (hb : env.blockKind = .function) (h3 : vs.all notSt = true)
    (hn : ts.filterMap (swN env (((ts.head?.map (·.pos.line)).getD 0))) = xs) (hl : xs.length = ts.length) (hd : xs.eraseDups.length = xs.length) (h4 : vs.all (foldedForSure 8) = false) (h5 : vs.all (constantsAlone 8) = false) :
    swappedStores [.Tuple ts k tp] (.Tuple vs k' p') env = pure (some xs) := by
  subst hn
  refine (if_neg ?_).trans ((if_neg ?_).trans ((if_neg ?_).trans ((if_neg ?_).trans ((if_neg ?_).trans rfl))))
  · rw [h1, h2, hb]; simp
  · exact fun h => Bool.false_ne_true ((noSt_any h3).symm.trans h)
  · generalize hl' : ((ts.head?.map (·.pos.line)).getD 0) = l at hl hd
    show ¬ ((ts.filterMap (swN env _)).length != ts.length || (ts.filterMap (swN env _)).eraseDups.length != (ts.filterMap (swN env _)).length) = true
    rw [hd, hl, bne_self_eq_false]; exact Bool.false_ne_true
  · rw [h4]; exact Bool.false_ne_true
  · rw [h5]; exact Bool.false_ne_true
theorem nameIn {x : Str} {p : Pos} {l : Nat} {L : Addr} (EO : EnvOK env sc L) (hx : sc.names.lookup x = some .local) (h : (p.line == l) = true) : swN env l (.Name x p) = some x := by
  have kx : env.kindOf x = some .local := by unfold Env.kindOf; rw [EO.scope]; exact hx
  show (if (env.kindOf x == some .local && p.line == l) = true then some x else none) = some x
  rw [kx, h]; rfl
theorem blockFn {L : Addr} (EO : EnvOK env sc L) : env.blockKind = .function := by unfold Env.blockKind; rw [EO.scope, EO.kind]; rfl
/-- a tuple's literal for two names: the last name is stored first -/
theorem swapped2 {x y : Str} {p1 p2 tp : Pos} {k : _} {v : PySem.Expr} {L : Addr} (EO : EnvOK env sc L) (hx : sc.names.lookup x = some .local) (hy : sc.names.lookup y = some .local) (hne : x ≠ y) (hc : tupOk p1 [p2] v = true) :
    swappedStores [.Tuple [.Name x p1, .Name y p2] k tp] v env = pure none ∨ swappedStores [.Tuple [.Name x p1, .Name y p2] k tp] v env = pure (some [x, y]) := by
  cases v <;> first | exact .inl rfl | skip
  refine .inr (and5 (show (_ && _ && _ && _ && _) = true from hc) fun h1 h2 h3 h4 h5 => swapped_gen rfl (beq_iff_eq.mp h1) (blockFn EO) h2 ?_ rfl ?_ (not1 h4) (not1 h5))
  · show [PySem.Expr.Name x p1, .Name y p2].filterMap (swN env p1.line) = _
    rw [List.filterMap_cons_some (nameIn EO hx (beq_self_eq_true _)), List.filterMap_cons_some (nameIn EO hy (and2 h3).1)]; rfl
  · simp [List.eraseDups_cons, Ne.symm hne]
theorem swapped3 {x y z : Str} {p1 p2 p3 tp : Pos} {k : _} {v : PySem.Expr} {L : Addr} (EO : EnvOK env sc L) (hx : sc.names.lookup x = some .local) (hy : sc.names.lookup y = some .local) (hz : sc.names.lookup z = some .local) (hne : x ≠ y) (hxz : x ≠ z) (hyz : y ≠ z) (hc : tupOk p1 [p2, p3] v = true) :
    swappedStores [.Tuple [.Name x p1, .Name y p2, .Name z p3] k tp] v env = pure none ∨ swappedStores [.Tuple [.Name x p1, .Name y p2, .Name z p3] k tp] v env = pure (some [x, y, z]) := by
  cases v <;> first | exact .inl rfl | skip
  refine .inr (and5 (show (_ && _ && _ && _ && _) = true from hc) fun h1 h2 h3 h4 h5 => swapped_gen rfl (beq_iff_eq.mp h1) (blockFn EO) h2 ?_ rfl ?_ (not1 h4) (not1 h5))
  · show [PySem.Expr.Name x p1, .Name y p2, .Name z p3].filterMap (swN env p1.line) = _
    rw [List.filterMap_cons_some (nameIn EO hx (beq_self_eq_true _)), List.filterMap_cons_some (nameIn EO hy (and2 h3).1), List.filterMap_cons_some (nameIn EO hz (and2 (and2 h3).2).1)]; rfl
  · simp [List.eraseDups_cons, Ne.symm hne, Ne.symm hxz, Ne.symm hyz]

theorem asg2_sound {i j : Nat} {x y : Str} {p1 p2 tp pos : Pos} {k : _} {v : PySem.Expr} {e : AE} {Q : SQ} {E : AH → Prop} (EO : EnvOK env sc L) (ok : Ok n A env outer L m frs) (hv : EvAt prog w base os sc vars C n v e) (hN : vars.Nodup) (hi : vars[i]? = some x) (hx : sc.names.lookup x = some .local)
    (hj : vars[j]? = some y) (hy : sc.names.lookup y = some .local) (hij : i ≠ j) (hc : tupOk p1 [p2] v = true) (hn : notSwap v = true) (S : St prog w base ((L, m) :: frs) os σ s) (lr : LR vars ρ m) (h : swp C (.asg2 i j e) ρ σ Q E) :
    wpAny (model prog w) A (exec (.Assign [.Tuple [.Name x p1, .Name y p2] k tp] v pos) env) (FQ prog w base os L frs vars Q) (XE prog w base L frs os E) s := by
  have hne : x ≠ y := fun q => hij (nodup_at hN hi (q ▸ hj))
  rcases swapped2 (k := k) (tp := tp) EO hx hy hne hc with hw | hw
  · refine Assign_Tuple (QQ.bind (hv A env outer L m frs σ s ρ _ E EO ok S lr h) fun u σ₁ val s₁ hu S₁ h₁ => ?_) (swap_sole hn _ _) hw
    obtain ⟨t, a, b, rfl, ht, hq⟩ := h₁
    cases hu
    obtain ⟨_, ⟨vs, z, q1, q2⟩, _⟩ := S₁.ob _ _ ht
    obtain ⟨v1, v2, rfl, r1, r2⟩ := arr2 q2
    exact unpack2_sound EO ok.hh hN hi hx hj hy S₁ lr ⟨_, q1, rfl, z, rfl⟩ r1 r2 fun m' s' S' lr' _ => ⟨.next, _, σ₁, m', rfl, S', lr', hq⟩
  · refine Assign_Tuple_swapped (QQ.bind (hv A env outer L m frs σ s ρ _ E EO ok S lr h) fun u σ₁ val s₁ hu S₁ h₁ => ?_) (swap_sole hn _ _) hw
    obtain ⟨t, a, b, rfl, ht, hq⟩ := h₁
    cases hu
    obtain ⟨_, ⟨vs, z, q1, q2⟩, _⟩ := S₁.ob _ _ ht
    obtain ⟨v1, v2, rfl, r1, r2⟩ := arr2 q2
    refine wpAny_unpackItems_tuple (items := #[v1, v2]) ok.hh ⟨_, q1, rfl, z, rfl⟩ fun h' he => ?_
    have S₂ := S₁.grow h' s₁.toks fun c o e => he c o (ne_of_there e) e
    show wpAny (model prog w) A (assignInOrder [bindName env y, bindName env x] [v2, v1]) _ _ _
    refine wpAny_assignInOrder_more (wpAny_bindName (store_sound EO S₂ lr hN hj hy r2 fun m₁ s₃ S₃ lr₃ k₃ => ?_))
    refine wpAny_assignInOrder_more (wpAny_bindName (store_sound EO S₃ lr₃ hN hi hx r1 fun m₂ s₄ S₄ lr₄ k₄ => wpAny_assignInOrder_none ⟨.next, _, σ₁, m₂, rfl, S₄, lr₄, ?_⟩))
    rw [List.set_comm b a (Ne.symm hij)]; exact hq

theorem asg3_sound {i j l : Nat} {x y z : Str} {p1 p2 p3 tp pos : Pos} {k : _} {v : PySem.Expr} {e : AE} {Q : SQ} {E : AH → Prop} (EO : EnvOK env sc L) (ok : Ok n A env outer L m frs) (hv : EvAt prog w base os sc vars C n v e) (hN : vars.Nodup) (hi : vars[i]? = some x) (hx : sc.names.lookup x = some .local)
    (hj : vars[j]? = some y) (hy : sc.names.lookup y = some .local) (hl : vars[l]? = some z) (hz : sc.names.lookup z = some .local) (hij : i ≠ j) (hil : i ≠ l) (hjl : j ≠ l) (hc : tupOk p1 [p2, p3] v = true) (hn : notSwap v = true) (S : St prog w base ((L, m) :: frs) os σ s) (lr : LR vars ρ m) (h : swp C (.asg3 i j l e) ρ σ Q E) :
    wpAny (model prog w) A (exec (.Assign [.Tuple [.Name x p1, .Name y p2, .Name z p3] k tp] v pos) env) (FQ prog w base os L frs vars Q) (XE prog w base L frs os E) s := by
  have hne : x ≠ y := fun q => hij (nodup_at hN hi (q ▸ hj))
  have hxz : x ≠ z := fun q => hil (nodup_at hN hi (q ▸ hl))
  have hyz : y ≠ z := fun q => hjl (nodup_at hN hj (q ▸ hl))
  rcases swapped3 (k := k) (tp := tp) EO hx hy hz hne hxz hyz hc with hw | hw
  · refine Assign_Tuple (QQ.bind (hv A env outer L m frs σ s ρ _ E EO ok S lr h) fun u σ₁ val s₁ hu S₁ h₁ => ?_) (swap_sole hn _ _) hw
    obtain ⟨t, a, b, c, rfl, ht, hq⟩ := h₁
    cases hu
    obtain ⟨_, ⟨vs, zz, q1, q2⟩, _⟩ := S₁.ob _ _ ht
    obtain ⟨v1, v2, v3, rfl, r1, r2, r3⟩ := arr3 q2
    exact unpack3_sound EO ok.hh hN hi hx hj hy hl hz S₁ lr ⟨_, q1, rfl, zz, rfl⟩ r1 r2 r3 fun m' s' S' lr' => ⟨.next, _, σ₁, m', rfl, S', lr', hq⟩
  · refine Assign_Tuple_swapped (QQ.bind (hv A env outer L m frs σ s ρ _ E EO ok S lr h) fun u σ₁ val s₁ hu S₁ h₁ => ?_) (swap_sole hn _ _) hw
    obtain ⟨t, a, b, c, rfl, ht, hq⟩ := h₁
    cases hu
    obtain ⟨_, ⟨vs, zz, q1, q2⟩, _⟩ := S₁.ob _ _ ht
    obtain ⟨v1, v2, v3, rfl, r1, r2, r3⟩ := arr3 q2
    refine wpAny_unpackItems_tuple (items := #[v1, v2, v3]) ok.hh ⟨_, q1, rfl, zz, rfl⟩ fun h' he => ?_
    have S₂ := S₁.grow h' s₁.toks fun c o e => he c o (ne_of_there e) e
    show wpAny (model prog w) A (assignInOrder [bindName env z, bindName env y, bindName env x] [v3, v2, v1]) _ _ _
    refine wpAny_assignInOrder_more (wpAny_bindName (store_sound EO S₂ lr hN hl hz r3 fun m₁ s₃ S₃ lr₃ k₃ => ?_))
    refine wpAny_assignInOrder_more (wpAny_bindName (store_sound EO S₃ lr₃ hN hj hy r2 fun m₂ s₄ S₄ lr₄ k₄ => ?_))
    refine wpAny_assignInOrder_more (wpAny_bindName (store_sound EO S₄ lr₄ hN hi hx r1 fun m₃ s₅ S₅ lr₅ k₅ => wpAny_assignInOrder_none ⟨.next, _, σ₁, m₃, rfl, S₅, lr₅, ?_⟩))
    rw [List.set_comm c b (Ne.symm hjl), List.set_comm c a (Ne.symm hil), List.set_comm b a (Ne.symm hij)]
    exact hq

end Nm
end

section
open PySem PySem.W PySem.Calls PyProof.Rows
set_option tactic.hygienic false
set_option maxRecDepth 100000
namespace Nm

variable {prog : Program} {w : World} {os : OsState} {K : Frag} {mg mb : Str → Option Value}

theorem stm_sound {sc : Scope} {vars : List Str} {C : CallT} {n : Nat} (hN : vars.Nodup) (hC : ∀ base, Cx K base mg mb → CS prog w base os n C) :
    ∀ (a : AS), (∀ st, okS sc vars a st = true → StAt prog w os K mg mb sc vars C n (reS a st) a) ∧ (∀ b, okB sc vars a b = true → BkAt prog w os K mg mb sc vars C n (reB a b) a) := by
  have ev : ∀ {base : Heap} {e : PySem.Expr} {x : AE}, Cx K base mg mb → okE sc vars x e = true → EvAt prog w base os sc vars C n (reE x e) x := fun cx h => (ev_sound cx (hC _ cx) h).1
  have tr : ∀ {base : Heap} {e : PySem.Expr} {x : AE}, Cx K base mg mb → okE sc vars x e = true → TrAt prog w base os sc vars C n (reE x e) x := fun cx h => (ev_sound cx (hC _ cx) h).2
  intro a
  induction a with
  | skip => exact ⟨fun _ hc => (Bool.false_ne_true hc).elim, fun b _ base A env outer L m frs σ s ρ Q E cx EO ok S lr h => wpAny_execs_nil ⟨.next, ρ, σ, m, rfl, S, lr, h⟩⟩
  | seq s t ihs iht =>
    refine ⟨fun _ hc => (Bool.false_ne_true hc).elim, fun b hc base A env outer L m frs σ s' ρ Q E cx EO ok S lr h => ?_⟩
    refine wpAny_execs_cons (wpAny_mono (ihs.1 _ (and2 hc).1 base A env outer L m frs σ s' ρ _ E cx EO ok S lr h) (fun f s₁ ⟨o, ρ₁, σ₁, m₁, hf, S₁, lr₁, hq⟩ => ?_) fun _ _ x => x)
    cases o with
    | next => cases hf; exact iht.2 _ (and2 hc).2 base A env outer L m₁ frs σ₁ s₁ ρ₁ Q E cx EO ok.any S₁ lr₁ hq
    | ret v => obtain ⟨u, rfl, hv⟩ := hf; exact ⟨.ret v, ρ₁, σ₁, m₁, ⟨u, rfl, hv⟩, S₁, lr₁, hq⟩
  | asg i e =>
    refine ⟨fun st hc base A env outer L m frs σ s ρ Q E cx EO ok S lr h => ?_, fun _ hc => (Bool.false_ne_true hc).elim⟩
    refine and4 hc fun hi hx he hn => wpAny_Assign_Name (QQ.bind (ev cx he A env outer L m frs σ s ρ _ E EO ok S lr h) fun v σ₁ u s₁ hv S₁ hq => ?_) (swap_none hn _ _)
    exact store_sound EO S₁ lr hN (beq_iff_eq.mp hi) (beq_iff_eq.mp hx) hv fun m' s' S' lr' _ => ⟨.next, _, σ₁, m', rfl, S', lr', hq.2⟩
  | asg2 i j e =>
    refine ⟨fun st hc base A env outer L m frs σ s ρ Q E cx EO ok S lr h => ?_, fun _ hc => (Bool.false_ne_true hc).elim⟩
    exact and8 hc fun ht hij hi hj hx hy he hn => asg2_sound EO ok (ev cx he) hN (beq_iff_eq.mp hi) (beq_iff_eq.mp hx) (beq_iff_eq.mp hj) (beq_iff_eq.mp hy) (of_decide_eq_true hij) ht hn S lr h
  | asg3 i j k e =>
    refine ⟨fun st hc base A env outer L m frs σ s ρ Q E cx EO ok S lr h => ?_, fun _ hc => (Bool.false_ne_true hc).elim⟩
    refine and8 hc fun hc hj hk hx hy hz he hn => and5 hc fun ht hij hik hjk hi => ?_
    exact asg3_sound EO ok (ev cx he) hN (beq_iff_eq.mp hi) (beq_iff_eq.mp hx) (beq_iff_eq.mp hj) (beq_iff_eq.mp hy) (beq_iff_eq.mp hk) (beq_iff_eq.mp hz) (of_decide_eq_true hij) (of_decide_eq_true hik) (of_decide_eq_true hjk) ht hn S lr h
  | setidx x y e =>
    refine ⟨fun st hc base A env outer L m frs σ s ρ Q E cx EO ok S lr h => and5 hc fun hs he hx hy hn => ?_, fun _ hc => (Bool.false_ne_true hc).elim⟩
    refine wpAny_Assign_Subscript (QQ.bind (ev cx he A env outer L m frs σ s ρ _ E EO ok S lr h) fun v σ₁ u s₁ hv S₁ h₁ => ?_) (swap_none hn _ _)
    refine QQ.bind (ev cx hx A env outer L m frs σ₁ s₁ ρ _ E EO ok S₁ lr h₁) fun v₂ σ₂ u₂ s₂ hv₂ S₂ h₂ => ?_
    refine QQ.bind (ev cx hy A env outer L m frs σ₂ s₂ ρ _ E EO ok S₂ lr h₂) fun v₃ σ₃ u₃ s₃ hv₃ S₃ h₃ => ?_
    obtain ⟨t, k, xs, rfl, rfl, ht, h0, h1, h2, _, hq⟩ := h₃
    cases hv₂
    obtain ⟨tk, rfl⟩ := hv₃
    exact setIdx_sound S₃ ht h0 h1 h2 hv fun s' S' => ⟨.next, ρ, _, m, rfl, S', lr, hq⟩
  | ret e =>
    refine ⟨fun st hc base A env outer L m frs σ s ρ Q E cx EO ok S lr h => ?_, fun _ hc => (Bool.false_ne_true hc).elim⟩
    exact wpAny_Return_some (QQ.bind (ev cx hc A env outer L m frs σ s ρ _ E EO ok S lr h) fun v σ₁ u s₁ hv S₁ hq => ⟨.ret v, ρ, σ₁, m, ⟨u, rfl, hv⟩, S₁, lr, hq⟩)
  | ite c s t ihs iht =>
    refine ⟨fun st hc base A env outer L m frs σ s₀ ρ Q E cx EO ok S lr h => ?_, fun _ hc => (Bool.false_ne_true hc).elim⟩
    refine and3 hc fun he hs ht => wpAny_If (wpAny_mono (tr cx he A env outer L m frs σ s₀ ρ _ E EO ok S lr (fun x σ hx => truV.tb hx) h) (fun b s₂ ⟨x, σ', t', S', hq⟩ => ?_) fun _ _ x => x)
    have hq := truV.use hq t'
    cases b with
    | true => exact ihs.2 _ hs base A env outer L m frs σ' s₂ ρ Q E cx EO ok S' lr hq
    | false => exact iht.2 _ ht base A env outer L m frs σ' s₂ ρ Q E cx EO ok S' lr hq
  | «while» c s ihs =>
    exact ⟨fun st hc base A env outer L m frs σ s₀ ρ Q E cx EO ok S lr h => while_sound cx EO ok (tr cx (and2 hc).1) (ihs.2 _ (and2 hc).2) S lr h, fun _ hc => (Bool.false_ne_true hc).elim⟩
  | forIn i e s ihs =>
    refine ⟨fun st hc base A env outer L m frs σ s₀ ρ Q E cx EO ok S lr h => and4 hc fun hi hx he hb => ?_, fun _ hc => (Bool.false_ne_true hc).elim⟩
    refine wpAny_For (QQ.bind (ev cx he A env outer L m frs σ s₀ ρ _ E EO ok S lr h) fun v σ₁ u s₁ hv S₁ h₁ => ?_) (ready env)
    cases v <;> first | (exact (show False from h₁).elim) | skip
    · obtain ⟨tk, rfl⟩ := hv
      exact forStr_sound cx EO ok (ihs.2 _ hb) hN (beq_iff_eq.mp hi) (beq_iff_eq.mp hx) S₁ lr h₁.1 h₁.2
    · cases hv
      obtain ⟨xs, hl, _, h₂⟩ := h₁
      exact forList_sound cx EO ok (ihs.2 _ hb) hN (beq_iff_eq.mp hi) (beq_iff_eq.mp hx) S₁ lr hl h₂
  | forZip i j e f s ihs =>
    refine ⟨fun st hc base A env outer L m frs σ s₀ ρ Q E cx EO ok S lr h => and8 hc fun hg hi hj hx hy he hf hb => ?_, fun _ hc => (Bool.false_ne_true hc).elim⟩
    refine wpAny_For ?_ (fun _ => rfl)
    refine Call_ (ldB cx EO S hg (cx.kf.nob _ (by decide)) (v := .type "zip") (by decide +kernel) (by decide) ?_)
    have g : (⟨prog, w, base, os, K, mg, mb, sc, vars, C, n, A, env, outer, L, m, frs, ρ⟩ : EX).Good := ⟨cx, hC _ cx, EO, ok, lr⟩
    refine PyProof.Rows.callWith_type1 ?_ (notStar he _ _) (EvL.plain (X := ⟨prog, w, base, os, K, mg, mb, sc, vars, C, n, A, env, outer, L, m, frs, ρ⟩) (as := [f]) ⟨⟨(ev_snd g f _ hf).1, notStar hf⟩, trivial⟩)
    refine wpAny_mono (spl_sound (X := ⟨prog, w, base, os, K, mg, mb, sc, vars, C, n, A, env, outer, L, m, frs, ρ⟩) (as := [e, f]) ⟨⟨(ev_snd g e _ he).1, notStar he⟩, ⟨(ev_snd g f _ hf).1, notStar hf⟩, trivial⟩ S (Q := fun l σ₂ => match l with
      | [v, u] => ∃ a b xs ys, v = .ref a ∧ u = .ref b ∧ σ₂ a = some (.list xs) ∧ σ₂ b = some (.list ys) ∧ xs.length = ys.length ∧ xs.length ≤ big ∧
          forN (fun σ' => σ' a = some (.list xs) ∧ σ' b = some (.list ys)) (fun (p : AV × AV) ρ => (ρ.set i p.1).set j p.2) (fun ρ σ q => swp C s ρ σ q E) Q (xs.zip ys) ρ σ₂
      | _ => False) h) (fun vs s' ⟨xs, σ', h1, S₁, h3⟩ => ?_) fun _ _ x => x
    obtain ⟨x, y, vx, vy, rfl, rfl, v1, v2, h3⟩ := VRs.two h1.1 h3
    obtain ⟨a, b, xs, ys, rfl, rfl, l1, l2, l3, _, h₂⟩ := h3
    cases v1; cases v2
    exact forZip_sound cx EO ok (ihs.2 _ hb) hN (beq_iff_eq.mp hi) (beq_iff_eq.mp hx) (beq_iff_eq.mp hj) (beq_iff_eq.mp hy) S₁ lr l1 l2 l3 h₂
  | forRange i N s ihs =>
    refine ⟨fun st hc base A env outer L m frs σ s₀ ρ Q E cx EO ok S lr h => and4 hc fun hg hi hx hb => ?_, fun _ hc => (Bool.false_ne_true hc).elim⟩
    refine wpAny_For ?_ (fun _ => rfl)
    refine Call_ (ldB cx EO S hg (cx.kf.nob _ (by decide)) (v := .type "range") (by decide +kernel) (by decide) ?_)
    refine PyProof.Rows.callWith_type1 ?_ rfl rfl
    refine spliced_more (wpAny_Constant_int (spliced_none ?_)) rfl
    refine call_range_1 ?_
    exact forRange_sound (N := N) cx EO ok (ihs.2 _ hb) hN (beq_iff_eq.mp hi) (beq_iff_eq.mp hx) (S.grow _ _ fun b o e => Heap.get?_push_of_some _ e) lr h.1 (IsRange.new ..) h.2
  | expr e =>
    refine ⟨fun st hc base A env outer L m frs σ s ρ Q E cx EO ok S lr h => ?_, fun _ hc => (Bool.false_ne_true hc).elim⟩
    have hs : env.scope.kind = .function := by rw [EO.scope]; exact EO.kind
    refine wpAny_Expr_any (QQ.bind (ev cx (and2 hc).1 A env outer L m frs σ s ρ _ E EO ok S lr h) fun v σ₁ u s₁ hv S₁ hq => ⟨.next, ρ, σ₁, m, rfl, S₁, lr, hq⟩) ?_ (swap_none (and2 hc).2 _ _)
    simp [interactive, hs]
  | fault i =>
    exact ⟨fun st hc base A env outer L m frs σ s ρ Q E cx EO ok S lr h => and3 hc fun hg hl hy => fault_sound cx EO ok S lr hg (beq_iff_eq.mp hy) (beq_iff_eq.mp hl) (by decide) h.1 h.2, fun _ hc => (Bool.false_ne_true hc).elim⟩
  | tryF s t ihs iht =>
    refine ⟨fun st hc base A env outer L m frs σ s₀ ρ Q E cx EO ok S lr h => and3 hc fun ht hg hb => ?_, fun _ hc => (Bool.false_ne_true hc).elim⟩
    obtain rfl := isRN_inv ht
    exact try_sound cx EO ok (ihs.2 _ hb) S lr hg h
/-- a def's body is the tree that was printed for it -/
theorem body_sound {sc : Scope} {vars : List Str} {C : CallT} {n : Nat} {a : AS} {b : List Stmt} (hN : vars.Nodup) (hC : ∀ base, Cx K base mg mb → CS prog w base os n C) (h : okB sc vars a b = true) (e : reB a b = b) : BkAt prog w os K mg mb sc vars C n b a := by
  have := (stm_sound hN hC a).2 b h
  rw [e] at this
  exact this
end Nm
end

section
open PySem PySem.W PySem.Calls PyProof.Rows
set_option tactic.hygienic false
set_option maxRecDepth 100000
namespace Nm

variable {prog : Program} {w : World} {base : Heap} {frs : Frs} {os : OsState} {σ : AH} {s : Shared} {K : Frag} {mg mb : Str → Option Value}

noncomputable abbrev fdOf (K : Frag) (f : Nat) : FuncData := fdAt K (faddr f)
noncomputable def okD (K : Frag) (fn : AFun) (fd : FuncData) : Bool :=
  codeIn K fd.code fd.qualname && okB fd.scope fn.vars fn.body (bodyOf fd) && (decide fn.vars.Nodup && decide (fn.np ≤ fn.vars.length)) && (!fd.scope.isCoroutine && !fd.scope.isGenerator && fd.scope.kind == .function) &&
    (fd.scope.names.all fun x => !(x.2 == .cell)) && ((fn.vars.take fn.np).all fun x => fd.scope.names.lookup x == some .local)
/-- the written part holds the def -/
structure FunOK (K : Frag) (fn : AFun) (f : Nat) : Prop where
  isf : isFnAt K (faddr f) = true
  stm : (fdOf K f).body = .stmts (bodyOf (fdOf K f))
  ok : okD K fn (fdOf K f) = true
  re : reB fn.body (bodyOf (fdOf K f)) = bodyOf (fdOf K f)
  gl : (fdOf K f).globals = mainGlobals ∧ (fdOf K f).closure = [] ∧ (fdOf K f).builtins = builtinsNs
  bind : ∀ vs : List Value, vs.length = fn.np → bindArgs (fdOf K f) ⟨vs, []⟩ = pure ((fn.vars.take fn.np).zip vs)
theorem lookup_mem {x : Str} {v : Value} : ∀ {l : List (Str × Value)}, (x, v) ∈ l → (∀ v', (x, v') ∈ l → v' = v) → l.lookup x = some v
  | [], h, _ => by cases h
  | (y, u) :: l, h, k => by
    rw [List.lookup_cons]
    by_cases e : x = y
    · subst e
      simp only [beq_self_eq_true]
      rw [k u (.head _)]
    · rw [show (x == y) = false from beq_eq_false_iff_ne.mpr e]
      rcases List.mem_cons.mp h with h | h
      · exact (e (Prod.mk.inj h).1).elim
      · exact lookup_mem h fun v' hv => k v' (.tail _ hv)

theorem binds_at {l : List Str} {vs : List Value} {i : Nat} {x : Str} {v : Value} (hn : l.Nodup) (hx : l[i]? = some x) (hv : vs[i]? = some v) : (l.zip vs).reverse.lookup x = some v := by
  have hz : (l.zip vs)[i]? = some (x, v) := List.getElem?_zip_eq_some.mpr ⟨hx, hv⟩
  refine lookup_mem (List.mem_reverse.mpr (List.mem_of_getElem? hz)) fun v' hm => ?_
  obtain ⟨j, hj⟩ := List.mem_iff_getElem?.mp (List.mem_reverse.mp hm)
  obtain ⟨h1, h2⟩ := List.getElem?_zip_eq_some.mp hj
  have := nodup_at hn hx h1
  subst this
  rw [hv] at h2; cases h2; rfl

theorem VRs.noUnb : ∀ {xs : List AV} {vs : List Value}, VRs xs vs → ∀ v ∈ xs, v ≠ .unb
  | [], _, _, _, h => by cases h
  | _ :: _, [], h, _, _ => h.elim
  | x :: xs, v :: vs, h, y, hy => by
    rcases List.mem_cons.mp hy with rfl | hy
    · rintro rfl; exact h.1
    · exact h.2.noUnb y hy

theorem LR.start {vars : List Str} {np : Nat} {args : List AV} {vs : List Value} (hn : vars.Nodup) (hle : np ≤ vars.length) (hl : args.length = np) (hv : VRs args vs) :
    LR vars (args ++ List.replicate (vars.length - np) .unb) (fun x => ((vars.take np).zip vs).reverse.lookup x) := by
  refine ⟨by rw [List.length_append, List.length_replicate, hl]; omega, fun i x v hx hv' hu => ?_⟩
  by_cases hi : i < np
  · rw [List.getElem?_append_left (by omega)] at hv'
    obtain ⟨u, h1, h2⟩ := hv.get hv'
    exact ⟨u, binds_at (hn.sublist (List.take_sublist _ _)) (by rw [List.getElem?_take_of_lt hi]; exact hx) h1, h2⟩
  · rw [List.getElem?_append_right (by omega)] at hv'
    exact (hu (List.eq_of_mem_replicate (List.mem_of_getElem? hv'))).elim

theorem St.pop {L : Addr} {m : Str → Option Value} (S : St prog w base ((L, m) :: frs) os σ s) : St prog w base frs os σ s :=
  ⟨S.stays, fun p hp => S.fr p (.tail _ hp), (List.nodup_cons.mp S.nd).2, fun a o q => (S.ob a o q).frames fun b ob _ hb hm => hb (.tail _ hm), S.gens, S.os⟩

theorem St.push (S : St prog w base frs os σ s) {h' : Heap} {k : Nat} {m : Str → Option Value} (hn : h'.Ns s.heap.objs.size m) (hk : ∀ b o, s.heap.get? b = some o → h'.get? b = some o) :
    St prog w base ((s.heap.objs.size, m) :: frs) os σ { s with heap := h', toks := k } := by
  have hfree : s.heap.get? s.heap.objs.size = none := Heap.get?_none_of_le (Nat.le_refl _)
  obtain ⟨f1, f2, f3⟩ := S.free hfree
  refine ⟨fun b o e => hk _ _ (S.stays b o e), fun p hp => ?_, List.nodup_cons.mpr ⟨f2, S.nd⟩, fun a o e => ?_, S.gens, S.os⟩
  · rcases List.mem_cons.mp hp with rfl | hp
    · exact ⟨hn, f3⟩
    · exact ⟨(S.fr p hp).1.keeps hk, (S.fr p hp).2⟩
  · refine ((S.ob a o e).frames (fr' := Frs.ad ((s.heap.objs.size, m) :: frs)) fun b ob hb nb hm => ?_).keeps hk
    rcases List.mem_cons.mp hm with h | h
    · subst h; rw [hfree] at hb; cases hb
    · exact nb h

/-- where a call of a def begins -/
structure Entry (prog : Program) (w : World) (base : Heap) (os : OsState) (n : Nat) (f : Nat) (fn : AFun) (fd : FuncData) (A : Around) (outer : List Env) (frs : Frs) (σ : AH) (s : Shared) (h₀ : Heap) (binds : List (Str × Value)) (ρ : List AV) : Prop where
  EO : EnvOK (callEnv fd s.heap.objs.size (faddr f)) fd.scope s.heap.objs.size
  ok : Ok n (A.deeper (callEnv fd s.heap.objs.size (faddr f))) (callEnv fd s.heap.objs.size (faddr f)) outer s.heap.objs.size (fun x => binds.reverse.lookup x) frs
  S : St prog w base ((s.heap.objs.size, fun x => binds.reverse.lookup x) :: frs) os σ { s with heap := h₀, toks := s.toks + binds.length }
  lr : LR fn.vars ρ (fun x => binds.reverse.lookup x)
theorem call_entry {n f : Nat} {fn : AFun} {A : Around} {outer : List Env} {args : List AV} {vs : List Value} {h₀ : Heap} (H : FunOK K fn f) (hh : A.handled = none) (fr : A.frames = some outer) (ea : EnvsAre outer frs)
    (dep : A.depth + 1 + n + 2 < recursionLimit) (un : A.units + 3 + 8 * n + 200 < cLine) (S : St prog w base frs os σ s) (hv : VRs args vs) (hlen : args.length = fn.np) (hns : h₀.Ns s.heap.objs.size (fun x => ((fn.vars.take fn.np).zip vs).reverse.lookup x)) (hk₀ : ∀ b o, s.heap.get? b = some o → h₀.get? b = some o) :
    Entry prog w base os n f fn (fdOf K f) A outer frs σ s h₀ ((fn.vars.take fn.np).zip vs) (args ++ List.replicate (fn.vars.length - fn.np) .unb) := by
  refine and6 H.ok fun _ _ h3 h4 _ _ => and3 h4 fun _ _ hk => ?_
  have hk := beq_iff_eq.mp hk
  exact ⟨⟨rfl, hk, rfl, rfl, H.gl.1, H.gl.2.2, H.gl.2.1⟩, ⟨hh, Around.frames_deeper fr, ⟨rfl, hk, ea⟩, dep, un⟩,
    S.push hns hk₀, LR.start (of_decide_eq_true (and2 h3).1) (of_decide_eq_true (and2 h3).2) hlen hv⟩
theorem Ok.dep1 {n : Nat} {A : Around} {env : Env} {outer : List Env} {L : Addr} {m : Str → Option Value} (ok : Ok (n + 1) A env outer L m frs) : A.depth + 1 + n + 2 < recursionLimit := by have := ok.dep; omega
theorem Ok.un1 {n : Nat} {A : Around} {env : Env} {outer : List Env} {L : Addr} {m : Str → Option Value} (ok : Ok (n + 1) A env outer L m frs) : A.units + 3 + 8 * n + 200 < cLine := by have := ok.un; omega
/-- how it ends -/
theorem call_leaves {L : Addr} {Q : VQ} {vars : List Str} {fl : Flow} {s' : Shared} (h : FQ prog w base os L frs vars (fun o _ σ' => Q o.val σ') fl s') :
    QQ prog w base frs os Q (match (generalizing := false) fl with | .ret v => v | _ => .none) s' := by
  obtain ⟨o, ρ', σ', m', hf, S', lr', hq⟩ := h
  cases o with
  | next => cases hf; exact ⟨.none, σ', rfl, S'.pop, hq⟩
  | ret v => obtain ⟨u, rfl, hv⟩ := hf; exact ⟨v, σ', hv, S'.pop, hq⟩
theorem cs_sound {F : Nat → Option AFun} (hF : ∀ f fn, F f = some fn → FunOK K fn f) (n : Nat) : ∀ base, Cx K base mg mb → CS prog w base os n (cwp F n) := by
  induction n with
  | zero => exact fun _ _ f args σ Q E A s env outer L m frs vs ok S hv h => (show False from h).elim
  | succ n ih =>
    intro base cx f args σ Q E A s env outer L m frs vs ok S hv h
    obtain ⟨fn, hfn, hlen, hnu, h⟩ := h
    have H := hF f fn hfn
    obtain ⟨o, ho, hd⟩ := isFnAt_inv H.isf
    have X := cx.kin.keeps S.stays
    refine and6 H.ok fun hcd hchk h3 h4 hcell hloc => and3 h4 fun hco hgen hk => ?_
    refine wpAny_call (codeAny_call_def (binds := (fn.vars.take fn.np).zip vs) (Nat.lt_of_le_of_lt (Nat.le_add_right _ (n + 3)) ok.dep) (X _ _ ho) hd (cx.lim.imp fun mc h => ⟨h.1.keeps S.stays, h.2⟩) (codeRec_of X hcd) H.stm (BindsTo.of_eq (H.bind vs (hv.length.symm.trans hlen)))
      (noCell hcell) (fun x hx => beq_iff_eq.mp (List.all_eq_true.mp hloc _ (List.of_mem_zip hx).1)) (fun h₀ hns hk₀ => ?_) (not1 hco) (not1 hgen) (beq_iff_eq.mp hk))
    have e := call_entry H ok.hh ok.fr ok.ea ok.dep1 ok.un1 S hv hlen hns hk₀
    exact wpAny_mono (body_sound (of_decide_eq_true (and2 h3).1) ih hchk H.re base _ _ _ _ _ _ _ _ _ _ E cx e.EO e.ok e.S e.lr h) (fun fl s' q => call_leaves q) fun e' s' x => XE.leaves e.ok.fr e.ok.ea x
end Nm
end

section
open PySem PySem.W PySem.Calls PyProof.Rows
open PySem.Sem (wp)
set_option tactic.hygienic false
set_option maxRecDepth 100000
set_option maxHeartbeats 1000000
namespace Nm

/-- no decoder that could hold a bytearray -/
noncomputable def noDec : Code → Bool
  | .builtin id _ => !(Builtin.Bytes.decodersThatHold.contains id)
  | _ => true
noncomputable def CalmB (Γ : Ctx) : Prop := ∀ x ∈ Γ.below, noDec x.1 = true
noncomputable def Calm (Γ : Ctx) : Prop := noDec Γ.code = true ∧ CalmB Γ

noncomputable def wpN {α : Type} (M : Model) (A : Around) (t : Sem α) (Q : α → Shared → Prop) (E : Value → Shared → Prop) (s : Shared) : Prop :=
  ∀ Γ p, Γ.In A → Calm Γ → wp M Γ t (fun a _ s' => Q a s') (fun e _ s' => E e s') p s
noncomputable def codeN (M : Model) (A : Around) (c : Code) (R : Result → Shared → Prop) (s : Shared) : Prop :=
  ∀ Γ p, Γ.code = c → Γ.Below A → CalmB Γ → wpCode M Γ R p s

section
variable {α β : Type} {M : Model} {A : Around} {E : Value → Shared → Prop} {s : Shared}

theorem wpN_of {t : Sem α} {Q : α → Shared → Prop} (h : wpAny M A t Q E s) : wpN M A t Q E s := fun Γ p hΓ _ => h Γ p hΓ
theorem codeN_of {c : Code} {R : Result → Shared → Prop} (h : codeAny M A c R s) : codeN M A c R s := fun Γ p hc hΓ _ => h Γ p hc hΓ
theorem wpN_pure {a : α} {Q : α → Shared → Prop} (h : Q a s) : wpN M A (pure a) Q E s := fun _ _ _ _ => h
theorem wpN_mono {t : Sem α} {Q Q' : α → Shared → Prop} {E' : Value → Shared → Prop} (h : wpN M A t Q E s) (hQ : ∀ a s, Q a s → Q' a s) (hE : ∀ e s, E e s → E' e s) : wpN M A t Q' E' s :=
  fun Γ p hΓ hc => Sem.wp_mono M Γ t (fun a _ s => hQ a s) (fun e _ s => hE e s) p s (h Γ p hΓ hc)
theorem wpN_bind {m : Sem α} {f : α → Sem β} {Q : β → Shared → Prop} (h : wpN M A m (fun a s' => wpN M A (f a) Q E s') E s) : wpN M A (m >>= f) Q E s := fun Γ p hΓ hc => by
  rw [Sem.wp_bind']
  exact Sem.wp_mono M Γ m (fun a p' s' h' => h' Γ p' hΓ hc) (fun _ _ _ h' => h') p s (h Γ p hΓ hc)
/-- the first part in the common logic -/
theorem wpN_bindA {m : Sem α} {f : α → Sem β} {Q : β → Shared → Prop} (h : wpAny M A m (fun a s' => wpN M A (f a) Q E s') E s) : wpN M A (m >>= f) Q E s := wpN_bind (wpN_of h)
theorem wpN_onRaise {m : Sem α} {k : Value → Sem Unit} {Q : α → Shared → Prop} (h : wpN M A m Q (fun e s' => wpAny M A (k e) (fun _ s'' => E e s'') E s') s) : wpN M A (m.onRaise k) Q E s := fun Γ p hΓ hc => by
  rw [Sem.wp_onRaise]
  exact Sem.wp_mono M Γ m (fun _ _ _ h' => h') (fun e p' s' h' => h' Γ p' hΓ) p s (h Γ p hΓ hc)
theorem wpN_attempt {m : Sem α} {Q : Except Value α → Shared → Prop} (h : wpN M A m (fun a => Q (.ok a)) (fun e => Q (.error e)) s) : wpN M A m.attempt Q E s := fun Γ p hΓ hc => by rw [Sem.wp_attempt]; exact h Γ p hΓ hc
theorem wpN_holding {vs : List Value} {m : Sem α} {Q : α → Shared → Prop} (h : wpN M A m Q E s) : wpN M A (holding vs m) Q E s := fun Γ p hΓ hc => by rw [Sem.wp_holding]; exact h Γ p hΓ hc
theorem wpN_of_eq {t : Sem α} {a : α} {Q : α → Shared → Prop} (e : t = pure a) (h : Q a s) : wpN M A t Q E s := by rw [e]; exact wpN_pure h

theorem codeN_mono {c : Code} {R R' : Result → Shared → Prop} (h : codeN M A c R s) (hR : ∀ r s, R r s → R' r s) : codeN M A c R' s := fun Γ p hc hΓ hb => wpCode_mono hR (h Γ p hc hΓ hb)

theorem Calm.enter {Γ : Ctx} (h : Calm Γ) (c : Code) (hd : Option Value) (p : Pos) : CalmB (Γ.enter c hd p) := fun x hx => by
  rcases List.mem_cons.mp (show x ∈ (Γ.code, p) :: Γ.below from hx) with rfl | hx
  · exact h.1
  · exact h.2 x hx

theorem wpN_run {c : Code} {h : Option Value} {Q : Flow → Shared → Prop} (hc : codeN M (A.mark h) c (fun r s' => match r with | .ok f => Q f s' | .error e => E e s') s) (hnb : h ≠ some byPass := by intro x; cases x) :
    wpN M A (run c h) Q E s := fun Γ p hΓ hk => by rw [Sem.wp_run]; exact hc _ p rfl (hΓ.enter c h p hnb) (hk.enter c h p)
theorem wpN_runValue {c : Code} {Q : Value → Shared → Prop} (hc : codeN M A c (fun r s' => match r with | .ok (.ret v) => Q v s' | .ok _ => False | .error e => E e s') s) :
    wpN M A (runValue c) Q E s := fun Γ p hΓ hk => by rw [Sem.wp_runValue]; exact hc _ p rfl (hΓ.enter c none p (by intro x; cases x)) (hk.enter c none p)
theorem wpN_call {f : Value} {pos : List Value} {kw : List (Str × Value)} {Q : Value → Shared → Prop} (hc : codeN M A (.call f ⟨pos, kw⟩) (fun r s' => match r with | .ok (.ret v) => Q v s' | .ok _ => False | .error e => E e s') s) :
    wpN M A (call f pos kw) Q E s := wpN_runValue hc

theorem codeN_of_tree {c : Code} {R : Result → Shared → Prop} (hn : noDec c = true)
    (h : wpN M (A.under c) (M.den c) (fun fin s' => match fin with | .done f => R (.ok f) s' | .again c' => c'.quiet = true ∧ codeN M A c' R s') (fun e s' => R (.error e) s') s) : codeN M A c R s := fun Γ p hc hΓ hb => by
  rw [wpCode_iff_wp, hc]
  refine Sem.wp_mono M Γ _ (fun fin p' s' h' => ?_) (fun _ _ _ h' => h') p s (h Γ p (hc ▸ hΓ.in) ⟨hc ▸ hn, hb⟩)
  cases fin with
  | done f => exact h'
  | again c' => exact ⟨h'.1, h'.2 (Γ.goto c') p' rfl (hΓ.goto c') hb⟩

theorem codeN_loop {c : Code} {R : Result → Shared → Prop} (hq : c.quiet = true) (hn : noDec c = true) (I : Nat → Shared → Prop)
    (turn : ∀ n s, I n s → wpN M (A.under c) (M.den c)
      (fun fin s' => match fin with
        | .done f => R (.ok f) s'
        | .again c' => (c' = c ∧ ∃ m, m < n ∧ I m s') ∨ (c'.quiet = true ∧ codeN M A c' R s')) (fun e s' => R (.error e) s') s)
    (n : Nat) (h : I n s) : codeN M A c R s := by
  induction n using Nat.strongRecOn generalizing s with
  | ind n ih =>
    refine codeN_of_tree hn (wpN_mono (turn n s h) (fun fin s' hf => ?_) fun _ _ h' => h')
    cases fin with
    | done f => exact hf
    | again c' =>
      rcases hf with ⟨rfl, m, hm, hI⟩ | hf
      · exact ⟨hq, ih m hm hI⟩
      · exact hf

theorem wpN_noted {env : Env} {m : Sem α} {Q : α → Shared → Prop} (h : wpN M A m Q (notedBy M A env E) s) : wpN M A (m.onRaise fun x => do noteFrame x env; theTreesLotGoes x) Q E s :=
  wpN_onRaise (wpN_mono h (fun _ _ q => q) fun _ _ hx => wpAny_bind (wpAny_mono hx (fun _ _ e => wpAny_theTreesLotGoes e) fun _ _ e => e))
end

section
variable {M : Model} {A : Around} {E : Value → Shared → Prop} {s : Shared} {env : Env}
theorem wpN_execs_cons {st : Stmt} {rest : List Stmt} {Q : Flow → Shared → Prop} (h : wpN M A (exec st env) (fun f s' => match f with | .next => wpN M A (execs rest env) Q E s' | f => Q f s') E s) :
    wpN M A (execs (st :: rest) env) Q E s := fun Γ p hΓ hc => by
  rw [execs_cons, Sem.wp_bind']
  refine Sem.wp_mono M Γ _ (fun f p' s' h' => ?_) (fun _ _ _ h' => h') _ _ (h Γ p hΓ hc)
  cases f <;> first | exact h' Γ p' hΓ hc | exact h'

theorem wpN_If {test : PySem.Expr} {body orelse : List Stmt} {pos : Pos} {Q : Flow → Shared → Prop}
    (h : wpN M A (isTrue test env (eval test env)) (fun b s₂ => if b then wpN M A (execs body env) Q E s₂ else wpN M A (execs orelse env) Q E s₂) E s) :
    wpN M A (exec (.If test body orelse pos) env) Q E s := fun Γ p hΓ hc => by
  simp only [exec_If, Sem.wp_bind', Sem.wp_cmd_standAt]
  refine Sem.wp_mono M Γ _ (fun b p₂ s₂ h₂ => ?_) (fun _ _ _ h' => h') _ _ (h Γ _ hΓ hc)
  cases b <;> exact h₂ Γ p₂ hΓ hc

theorem wpN_Assign_Name {x : Str} {pos' : Pos} {value : PySem.Expr} {pos : Pos} {Q : Flow → Shared → Prop} (h : wpN M A (eval value env) (fun v s₁ => wpAny M A (storeName env x v) (fun _ => Q .next) E s₁) E s)
    (hs : swapsWith value (some (.Name x pos')) pos.line env = pure false) : wpN M A (exec (.Assign [.Name x pos'] value pos) env) Q E s := fun Γ p hΓ hc => by
  simp only [exec_Assign_Name env x pos' value pos hs, Sem.wp_bind', Sem.wp_cmd_standAt, Sem.wp_bindName, Sem.wp_pure']
  exact Sem.wp_mono M Γ _ (fun v _ s₁ h₁ => h₁ Γ _ hΓ) (fun _ _ _ h' => h') _ _ (h Γ _ hΓ hc)

theorem wpN_Return_some {e : PySem.Expr} {pos : Pos} {Q : Flow → Shared → Prop} (h : wpN M A (eval e env) (fun v => Q (.ret v)) E s) : wpN M A (exec (.Return (some e) pos) env) Q E s := fun Γ p hΓ hc => by
  simp only [exec_Return_some, Sem.wp_bind', Sem.wp_cmd_standAt, Sem.wp_pure']; exact h Γ _ hΓ hc

theorem wpN_Compare1 {l : PySem.Expr} {op : CmpOp} {r : PySem.Expr} {pos : Pos} {Q : Value → Shared → Prop}
    (h : wpN M A (eval l env) (fun a s₁ => wpAny M A (eval r env) (fun b s₂ => wpAny M A (compareOp op a b) Q E s₂) E s₁) E s) (hm : behindInMarks op r = false) : wpN M A (eval (.Compare l [op] [r] pos) env) Q E s := fun Γ p hΓ hc => by
  simp only [eval_Compare1, markedBehindIn_of_false hm, Sem.wp_bind', Sem.wp_holding, Sem.wp_cmd_standAt, Sem.wp_operate]
  exact Sem.wp_mono M Γ _ (fun a p₁ s₁ h₁ => Sem.wp_mono M Γ _ (fun b _ s₂ h₂ => h₂ Γ _ hΓ) (fun _ _ _ h' => h') _ _ (h₁ Γ p₁ hΓ)) (fun _ _ _ h' => h') _ _ (h Γ p hΓ hc)
theorem wpN_isTrue_Compare1 {l : PySem.Expr} {op : CmpOp} {r : PySem.Expr} {pos : Pos} {whole : Sem Value} {Q : Bool → Shared → Prop}
    (h : wpN M A (eval l env) (fun a s₁ => wpAny M A (eval r env) (fun b s₂ => wpAny M A (compareOp op a b) (fun c s₃ => wpAny M A (truthy c) Q E s₃) E s₂) E s₁) E s) (hm : behindInMarks op r = false) : wpN M A (isTrue (.Compare l [op] [r] pos) env whole) Q E s := fun Γ p hΓ hc => by
  simp only [isTrue_Compare1, markedBehindIn_of_false hm, Sem.wp_bind', Sem.wp_holding, Sem.wp_cmd_standAt, Sem.wp_operate]
  exact Sem.wp_mono M Γ _ (fun a p₁ s₁ h₁ => Sem.wp_mono M Γ _ (fun b _ s₂ h₂ => Sem.wp_mono M Γ _ (fun c p₃ s₃ h₃ => h₃ Γ p₃ hΓ) (fun _ _ _ h' => h') _ _ (h₂ Γ _ hΓ)) (fun _ _ _ h' => h') _ _ (h₁ Γ p₁ hΓ)) (fun _ _ _ h' => h') _ _ (h Γ p hΓ hc)

theorem wpN_runOwn {c : Code} {h : Option Value} {Q : Flow → Shared → Prop} (hc : codeN M (A.mark h) c (fun r s' => match r with | .ok f => Q f s' | .error e => cameBackBy M A env E e s') s) (hnb : h ≠ some byPass := by intro x; cases x) :
    wpN M A (runOwn c env h) Q E s := by
  unfold runOwn
  exact wpN_onRaise (wpN_run hc hnb)
theorem wpN_While {test : PySem.Expr} {body orelse : List Stmt} {pos : Pos} {Q : Flow → Shared → Prop} (h : codeN M A (.whileLoop test body orelse env) (fun r s' => match r with | .ok f => Q f s' | .error e => cameBackBy M A env E e s') s) :
    wpN M A (exec (.While test body orelse pos) env) Q E s := by
  rw [exec_While]; exact wpN_bindA (wpAny_standAt (wpN_runOwn h))
theorem wpN_For {target iter : PySem.Expr} {body orelse : List Stmt} {pos : Pos} {Q : Flow → Shared → Prop}
    (h : wpAny M A (eval iter env) (fun x s₁ => wpAny M A (pyIter x) (fun it s₂ => codeN M A (.forLoop target it body orelse env) (fun r s' => match r with | .ok f => Q f s' | .error e => cameBackBy M A env E e s') s₂) E s₁) E s)
    (hs : ∀ x, foldedSetIterable iter env x = pure x) : wpN M A (exec (.For target iter body orelse pos) env) Q E s := by
  rw [exec_For]
  exact wpN_bindA (wpAny_standAt (wpN_bindA (wpAny_mono h (fun x s₁ h₁ => wpN_bindA (wpAny_of_eq (hs x) (wpN_bindA (wpAny_standAt (wpN_bindA (wpAny_holding (wpAny_mono h₁ (fun it s₂ h₂ => wpN_runOwn h₂) fun _ _ h' => h'))))))) fun _ _ h' => h')))
end

section
variable {prog : Program} {w : World} {A : Around} {E : Value → Shared → Prop} {R : Result → Shared → Prop} {s : Shared} {env : Env}

theorem codeN_whileLoop {test : PySem.Expr} {body orelse : List Stmt} (I : Nat → Shared → Prop)
    (turn : ∀ n s, I n s → wpAny (model prog w) A (isTrue test env (eval test env)) (fun b s₂ =>
        if b then wpN (model prog w) A (execs body env) (fun f s₃ => match f with
            | .next | .cont => ∃ m, m < n ∧ I m s₃
            | .brk => R (.ok .next) s₃
            | .ret v => R (.ok (.ret v)) s₃) (notedBy (model prog w) A env fun e s' => R (.error e) s') s₂
        else wpN (model prog w) A (execs orelse env) (fun f s₃ => R (.ok f) s₃) (notedBy (model prog w) A env fun e s' => R (.error e) s') s₂)
        (notedBy (model prog w) A env fun e s' => R (.error e) s') s)
    (n : Nat) (h : I n s) : codeN (model prog w) A (.whileLoop test body orelse env) R s := by
  refine codeN_loop rfl rfl I (fun n s hI => ?_) n h
  show wpN _ A ((whileTurn test body orelse env).onRaise (fun x => do noteFrame x env; theTreesLotGoes x)) _ _ s
  refine wpN_noted ?_
  simp only [whileTurn]
  refine wpN_bindA (wpAny_mono (turn n s hI) (fun b s₂ h₂ => ?_) fun _ _ h' => h')
  cases b with
  | false =>
    simp only [Bool.false_eq_true, if_false] at h₂ ⊢
    exact wpN_bind (wpN_mono h₂ (fun f s₃ h₃ => wpN_pure h₃) fun _ _ h' => h')
  | true =>
    simp only [if_true] at h₂ ⊢
    refine wpN_bind (wpN_mono h₂ (fun f s₃ h₃ => ?_) fun _ _ h' => h')
    cases f with
    | next => exact wpN_pure (.inl ⟨rfl, h₃⟩)
    | cont => exact wpN_pure (.inl ⟨rfl, h₃⟩)
    | brk => exact wpN_pure h₃
    | ret v => exact wpN_pure h₃

theorem codeN_block {stmts : List Stmt} (h : wpN (model prog w) A (execs stmts env) (fun f s' => R (.ok f) s') (notedBy (model prog w) A env fun e s' => R (.error e) s') s) : codeN (model prog w) A (.block stmts env) R s := by
  refine codeN_of_tree rfl ?_
  show wpN _ _ (do return Fin.done (← (execs stmts env).onRaise (fun x => do noteFrame x env; theTreesLotGoes x))) _ _ s
  exact wpN_bind (wpN_noted (wpN_mono h (fun f s' h' => wpN_pure h') fun _ _ h' => h'))

theorem codeN_forLoop {target : PySem.Expr} {it : Value} {body orelse : List Stmt} (I : Nat → Shared → Prop)
    (turn : ∀ n s, I n s → wpAny (model prog w) A (pyNext it) (fun r s₁ => match r with
      | none => wpAny (model prog w) A (execs orelse env) (fun f s₃ => R (.ok f) s₃) (notedBy (model prog w) A env fun e s' => R (.error e) s') s₁
      | some v => wpAny (model prog w) A (letOwnedTupleGo target it v) (fun _ s₁' =>
          wpAny (model prog w) A (assign target env v) (fun _ s₂ => wpN (model prog w) A (execs body env) (fun f s₃ => match f with
            | .next | .cont => ∃ m, m < n ∧ I m s₃
            | .brk => R (.ok .next) s₃
            | .ret v => R (.ok (.ret v)) s₃) (notedBy (model prog w) A env fun e s' => R (.error e) s') s₂) (notedBy (model prog w) A env fun e s' => R (.error e) s') s₁') (notedBy (model prog w) A env fun e s' => R (.error e) s') s₁) (notedBy (model prog w) A env fun e s' => R (.error e) s') s)
    (n : Nat) (h : I n s) : codeN (model prog w) A (.forLoop target it body orelse env) R s := by
  refine codeN_loop rfl rfl I (fun n s hI => ?_) n h
  show wpN _ A ((forTurn target it body orelse env).onRaise (fun x => do noteFrame x env; theTreesLotGoes x)) _ _ s
  refine wpN_noted ?_
  simp only [forTurn]
  refine wpN_bindA (wpAny_standAt (wpN_bindA (wpAny_onRaise (wpAny_mono (turn n s hI) (fun r s₁ h₁ => ?_) fun _ _ h' => wpAny_standAt h'))))
  cases r with
  | none => exact wpN_pure (.inr ⟨rfl, codeN_block (wpN_of h₁)⟩)
  | some v =>
    refine wpN_bindA (wpAny_mono h₁ (fun _ s₁' h₁' => ?_) fun _ _ h' => h')
    refine wpN_bindA (wpAny_mono h₁' (fun _ s₂ h₂ => wpN_bind (wpN_mono h₂ (fun f s₃ h₃ => ?_) fun _ _ h' => h')) fun _ _ h' => h')
    cases f with
    | next => exact wpN_pure (.inl ⟨rfl, h₃⟩)
    | cont => exact wpN_pure (.inl ⟨rfl, h₃⟩)
    | brk => exact wpN_pure h₃
    | ret v => exact wpN_pure h₃

theorem wpN_Try_except {body orelse : List Stmt} {h₀ : ExceptHandler} {hs : List ExceptHandler} {pos : Pos} {Q : Flow → Shared → Prop}
    (h : wpN (model prog w) A (execs body env) (fun f s₁ => match f with | .next => wpAny (model prog w) A (execs orelse env) Q E s₁ | f => Q f s₁)
      (fun e s₁ => wpAny (model prog w) A (noteFrame e env) (fun _ s₂ => wpAny (model prog w) A (setFlight e none) (fun _ s₃ => wpAny (model prog w) A (handleBy e env (h₀ :: hs)) Q E s₃) E s₂) E s₁) s) :
    wpN (model prog w) A (exec (.Try body (h₀ :: hs) orelse [] pos) env) Q E s := by
  rw [arm_exec_Try]
  refine wpN_bindA (wpAny_standAt ?_)
  unfold tryStmt
  simp only [List.isEmpty_nil, if_true, List.isEmpty_cons, Bool.false_and, Bool.false_eq_true, if_false]
  refine wpN_bind (wpN_attempt (wpN_mono h (fun f s₁ h₁ => ?_) fun e s₁ h₁ => ?_))
  · cases f <;> first | exact wpN_of h₁ | exact wpN_pure h₁
  · exact wpN_bindA (wpAny_mono h₁ (fun _ _ h₂ => wpN_bindA (wpAny_mono h₂ (fun _ _ h₃ => wpN_of h₃) fun _ _ x => x)) fun _ _ x => x)

theorem wpN_Expr_any {e : PySem.Expr} {pos : Pos} {Q : Flow → Shared → Prop} (h : wpN (model prog w) A (eval e env) (fun _ => Q .next) E s) (hi : interactive env = false) (hs : swapsWith e none pos.line env = pure false) :
    wpN (model prog w) A (exec (.Expr e pos) env) Q E s := by
  rw [exec_Expr env e pos hi hs]
  exact wpN_bindA (wpAny_standAt (wpN_bind (wpN_mono h (fun v s' h' => wpN_of (wpAny_dropValue h')) fun _ _ x => x)))

theorem codeN_func {body : List Stmt}
    (h : wpN (model prog w) (A.deeper env) (execs body env) (fun f s' => R (.ok (.ret (match f with | .ret v => v | _ => .none))) s')
      (fun e s' => wpAny (model prog w) (A.deeper env) (leaving env e) (fun _ s'' => R (.error e) s'') (fun e' s'' => R (.error e') s'') s') s) :
    codeN (model prog w) A (.func body env) R s := by
  refine codeN_of_tree rfl ?_
  show wpN _ (A.deeper env) (do point; match ← (execs body env).onRaise (leaving env) with | .ret v => ret v | _ => ret .none) _ _ s
  refine wpN_bindA (wpAny_point (wpN_bind (wpN_onRaise (wpN_mono h (fun f s' h' => ?_) fun _ _ h' => h'))))
  cases f <;> exact wpN_pure h'

theorem codeN_call_def {a : Addr} {o : Obj} {fd : FuncData} {body : List Stmt} {args : Args} {binds : List (Str × Value)}
    (hroom : A.depth < recursionLimit) (ho : s.heap.get? a = some o) (hdata : o.data = .func fd) (hlim : s.heap.NoLimit) (hcd : s.heap.CodeRec fd.code fd.qualname)
    (hbody : fd.body = .stmts body) (hbind : BindsTo s fd args binds)
    (hcell : ∀ x ∈ fd.scope.names, x.2 ≠ .cell) (hloc : ∀ x ∈ binds, fd.scope.names.lookup x.1 = some .local)
    (h : ∀ h₀, h₀.Ns s.heap.objs.size (fun x => binds.reverse.lookup x) → (∀ b o, s.heap.get? b = some o → h₀.get? b = some o) →
      wpN (model prog w) (A.deeper (callEnv fd s.heap.objs.size a)) (execs body (callEnv fd s.heap.objs.size a)) (fun f s' => R (.ok (.ret (match f with | .ret v => v | _ => .none))) s')
        (fun e s' => wpAny (model prog w) (A.deeper (callEnv fd s.heap.objs.size a)) (leaving (callEnv fd s.heap.objs.size a) e) (fun _ s'' => R (.error e) s'') (fun e' s'' => R (.error e') s'') s')
        { s with heap := h₀, toks := s.toks + binds.length })
    (hco : fd.scope.isCoroutine = false) (hgen : fd.scope.isGenerator = false) (hk : fd.scope.kind = .function) :
    codeN (model prog w) A (.call (.ref a) args) R s := by
  refine codeN_of_tree rfl ?_
  show wpN _ A.in1 (callAny (.ref a) args) _ _ s
  simp only [callAny]
  refine wpN_bindA (wpAny_load ho ?_)
  obtain ⟨c, oc, vs, tq, hc, hoc, hdc, hq⟩ := hcd
  simp only [hdata, callFunction, hco, hgen, hbody, hc]
  refine wpN_bindA (m := field (.ref c) 1) (wpAny_field hoc hdc hq (wpN_bindA (wpAny_pure ?_)))
  refine wpN_bindA (hbind _ _ _ _ (wpN_bindA (wpAny_newFunctionEnv hcell hloc (fun h₀ hns₀ hsb₀ => ?_) hk)))
  refine wpN_bindA (wpAny_enterFrame (hlim.fresh _ hsb₀) hroom (wpN_pure (And.intro rfl ?_)))
  have := h h₀ hns₀ fun b o e => hsb₀.extBut b o (Nat.ne_of_lt (Heap.lt_size e)) (Heap.get?_push_of_some _ e)
  rw [show callEnv fd s.heap.objs.size a = newEnv fd.scope s.heap.objs.size fd.globals fd.closure (fd.qualname ++ ".<locals>.") (some a) fd.code none fd.builtins from rfl] at this
  rw [hc] at this
  exact codeN_func this
end
end Nm
end

section
open PySem PySem.W PySem.Calls PyProof.Rows
open PySem.Sem (wp)
set_option tactic.hygienic false
set_option maxRecDepth 100000
set_option maxHeartbeats 2000000
namespace Nm

/-- the defs that may fill a bytearray, or call one that does -/
noncomputable def nset (f : Nat) : Bool := f == 3 || f == 4 || f == 21 || f == 22

noncomputable def isC1 : AE → Bool | .call1 .. => true | _ => false
noncomputable def isBr : AE → Bool | .barr => true | _ => false
noncomputable def isL45 : AE → AE → Bool | .loc i, .loc j => i == 4 && j == 5 | _, _ => false
noncomputable def isAp : M1 → Bool | .append => true | _ => false
/-- the forms that the calculus takes otherwise -/
noncomputable def nform : AE → Bool
  | .call1 .. => true | .call2 .. => true | .call3 .. => true | .cmp _ a _ => isC1 a | .tup2 _ b => isBr b | .m1 f a b => bif isAp f then isL45 a b else false | _ => false
noncomputable def ewpN0 (C CN : CallT) : AE → List AV → AH → VQ → (AH → Prop) → Prop
  | .call1 f a, ρ, σ, Q, E => ewp C a ρ σ (fun x σ₁ => CN f [x] σ₁ Q E) E
  | .call2 f a b, ρ, σ, Q, E => ewp C a ρ σ (fun x σ₁ => ewp C b ρ σ₁ (fun y σ₂ => CN f [x, y] σ₂ Q E) E) E
  | .call3 f a b c, ρ, σ, Q, E => ewp C a ρ σ (fun x σ₁ => ewp C b ρ σ₁ (fun y σ₂ => ewp C c ρ σ₂ (fun z σ₃ => CN f [x, y, z] σ₃ Q E) E) E) E
  | .cmp o (.call1 f a) b, ρ, σ, Q, E => ewp C a ρ σ (fun x σ₁ => CN f [x] σ₁ (fun y σ₂ => ewp C b ρ σ₂ (fun z σ₃ => cmpV o y z σ₃ Q) E) E) E
  | .tup2 a .barr, ρ, σ, Q, E => ewp C a ρ σ (fun x σ₁ => newO σ₁ (.barr []) (fun y σ₂ => newO σ₂ (.tup [x, y]) Q)) E
  | .m1 .append (.loc 4) (.loc 5), ρ, σ, Q, E => (∃ t bs k, ρ.getD 4 .unb = .ref t ∧ σ t = some (.barr bs) ∧ ρ.getD 5 .unb = .int k ∧ 0 ≤ k ∧ k < 256 ∧ bs.length < 1000 ∧ Q .none (σ.set t (.barr (bs ++ [k.toNat])))) ∨ ewp C (.m1 .append (.loc 4) (.loc 5)) ρ σ Q E
  | e, ρ, σ, Q, E => ewp C e ρ σ Q E

noncomputable def ewpN (C CN : CallT) (a : AE) (ρ : List AV) (σ : AH) (Q : VQ) (E : AH → Prop) : Prop := bif nform a then ewpN0 C CN a ρ σ Q E else ewp C a ρ σ Q E

noncomputable def swpN (C CN : CallT) : AS → List AV → AH → SQ → (AH → Prop) → Prop
  | .skip, ρ, σ, Q, _ => Q .next ρ σ
  | .seq s t, ρ, σ, Q, E => swpN C CN s ρ σ (fun o ρ₁ σ₁ => match o with | .next => swpN C CN t ρ₁ σ₁ Q E | .ret v => Q (.ret v) ρ₁ σ₁) E
  | .asg i e, ρ, σ, Q, E => ewpN C CN e ρ σ (fun v σ₁ => v ≠ .unb ∧ Q .next (ρ.set i v) σ₁) E
  | .asg2 i j e, ρ, σ, Q, E => ewpN C CN e ρ σ (fun v σ₁ => ∃ a x y, v = .ref a ∧ σ₁ a = some (.tup [x, y]) ∧ Q .next ((ρ.set i x).set j y) σ₁) E
  | .ret e, ρ, σ, Q, E => ewpN C CN e ρ σ (fun v σ₁ => Q (.ret v) ρ σ₁) E
  | .ite c s t, ρ, σ, Q, E => ewpN C CN c ρ σ (fun v σ₁ => truV v fun b => if b then swpN C CN s ρ σ₁ Q E else swpN C CN t ρ σ₁ Q E) E
  | .while c s, ρ, σ, Q, E => ∃ k, whileN (fun ρ σ q => ewp C c ρ σ q E) (fun ρ σ q => swpN C CN s ρ σ q E) Q k ρ σ
  | .forRange i n s, ρ, σ, Q, E => n ≤ 100 ∧ forN (fun _ => True) (fun (k : Nat) ρ => ρ.set i (.int k)) (fun ρ σ q => swpN C CN s ρ σ q E) Q (List.range n) ρ σ
  | .expr e, ρ, σ, Q, E => ewpN C CN e ρ σ (fun _ σ₁ => Q .next ρ σ₁) E
  | .tryF s t, ρ, σ, Q, E => swpN C CN s ρ σ Q (fun σ₁ => swp C t (List.replicate ρ.length .unb) σ₁ Q E)
  | s, ρ, σ, Q, E => swp C s ρ σ Q E

noncomputable def cwpN (F : Nat → Option AFun) : Nat → CallT
  | 0 => fun _ _ _ _ _ => False
  | n + 1 => fun f args σ Q E => match nset f with
    | true => ∃ fn, F f = some fn ∧ args.length = fn.np ∧ (∀ v ∈ args, v ≠ .unb) ∧ swpN (cwp F n) (cwpN F n) fn.body (args ++ List.replicate (fn.vars.length - fn.np) .unb) σ (fun o _ σ' => Q o.val σ') E
    | false => cwp F (n + 1) f args σ Q E

variable {prog : Program} {w : World} {base : Heap} {frs : Frs} {os : OsState} {σ : AH} {s : Shared} {A : Around} {K : Frag} {mg mb : Str → Option Value}
variable {sc : Scope} {vars : List Str} {C CN : CallT} {n : Nat} {env : Env} {outer : List Env} {L : Addr} {m : Str → Option Value} {ρ : List AV}

/-- calls do what they say, on a calm stack -/
noncomputable def CSN (prog : Program) (w : World) (base : Heap) (os : OsState) (n : Nat) (C : CallT) : Prop :=
  ∀ f args σ (Q : VQ) (E : AH → Prop) (A : Around) (s : Shared) (env : Env) (outer : List Env) (L : Addr) (m : Str → Option Value) (frs : Frs) (vs : List Value),
    Ok n A env outer L m frs → A.guards = some [] → St prog w base ((L, m) :: frs) os σ s → VRs args vs → C f args σ Q E →
    wpN (model prog w) A (call (.ref (faddr f)) vs) (QQ prog w base ((L, m) :: frs) os Q) (XC prog w base os ((L, m) :: frs) E) s

section
variable (prog w base os)
noncomputable def EvN (sc : Scope) (vars : List Str) (C CN : CallT) (n : Nat) (e : PySem.Expr) (a : AE) : Prop :=
  ∀ (A : Around) (env : Env) (outer : List Env) (L : Addr) (m : Str → Option Value) (frs : Frs) (σ : AH) (s : Shared) (ρ : List AV) (Q : VQ) (E : AH → Prop),
    EnvOK env sc L → Ok n A env outer L m frs → A.guards = some [] → St prog w base ((L, m) :: frs) os σ s → LR vars ρ m → ewpN C CN a ρ σ Q E →
    wpN (model prog w) A (eval e env) (QQ prog w base ((L, m) :: frs) os Q) (XE prog w base L frs os E) s
noncomputable def TrN (sc : Scope) (vars : List Str) (C CN : CallT) (n : Nat) (e : PySem.Expr) (a : AE) : Prop :=
  ∀ (A : Around) (env : Env) (outer : List Env) (L : Addr) (m : Str → Option Value) (frs : Frs) (σ : AH) (s : Shared) (ρ : List AV) (Q : VQ) (E : AH → Prop),
    EnvOK env sc L → Ok n A env outer L m frs → A.guards = some [] → St prog w base ((L, m) :: frs) os σ s → LR vars ρ m → (∀ x σ, Q x σ → Tb x) → ewpN C CN a ρ σ Q E →
    wpN (model prog w) A (isTrue e env (eval e env)) (fun b s' => ∃ x σ', TR x b ∧ St prog w base ((L, m) :: frs) os σ' s' ∧ Q x σ') (XE prog w base L frs os E) s
end

theorem QQ.bindN {Q : VQ} {R : Value → Shared → Prop} {t : Sem Value} {E : Value → Shared → Prop} (h : wpN (model prog w) A t (QQ prog w base frs os Q) E s)
    (k : ∀ x σ' v s', VR x v → St prog w base frs os σ' s' → Q x σ' → R v s') : wpN (model prog w) A t R E s :=
  wpN_mono h (fun v s' ⟨x, σ', h1, h2, h3⟩ => k x σ' v s' h1 h2 h3) fun _ _ e => e

theorem CallN_ {func : PySem.Expr} {args : List PySem.Expr} {pos : Pos} {Q : Value → Shared → Prop} {E : Value → Shared → Prop} {M : Model}
    (h : wpAny M A (eval func env) (fun f s₁ => wpN M A (callWith pos f [] (backTo pos (starEach args env)) []) Q E s₁) E s)
    (he : eval (.Call func args [] pos) env = (do callWith pos (← eval func env) [] (backTo pos (starEach args env)) (backToKw pos (keywordEach [] env))) := by rfl) :
    wpN M A (eval (.Call func args [] pos) env) Q E s := by
  rw [he]; exact wpN_bindA h

theorem wpN_keep {α : Type} {M : Model} {E : Value → Shared → Prop} {vs : List Value} {m : Sem α} {Q : α → Shared → Prop} (h : wpN M A m Q E s) : wpN M A (m.keep vs) Q E s :=
  fun Γ p hΓ hc => by rw [Sem.wp_keep]; exact h Γ p hΓ hc

theorem callWithN_of {M : Model} {E : Value → Shared → Prop} {pos : Pos} {f : Value} {first : List Value} {Q : Value → Shared → Prop} {P : Heap → Prop} {args : List (Bool × Sem Value)} (hplain : args.any (·.1) = false)
    (hk : ∀ h, P h → ∃ k, (k = Keeper.frame ∨ k = Keeper.machine ∨ k = Keeper.boundFrame) ∧ Looks M h (keeperOf f) k)
    (h : wpAny M A (evalArgs f true args []) (fun a s₁ => P s₁.heap ∧ wpN M A (call f (first ++ a.pos) a.kw) Q E s₁) E s) : wpN M A (callWith pos f first args []) Q E s := by
  unfold callWith
  refine wpN_bindA (wpAny_holding (wpAny_mono h (fun a s₁ h₁ => wpN_bindA (wpAny_standAt ?_)) fun _ _ x => x))
  obtain ⟨k, hk', L⟩ := hk _ h₁.1
  simp only [hplain, List.any_nil, Bool.or_false]
  refine wpN_bindA (L.here ?_)
  have tail : ∀ {t : Sem Value}, wpN M A t Q E s₁ → wpN M A (t >>= fun r => holding [r] point >>= fun _ => pure r) Q E s₁ :=
    fun ht => wpN_bind (wpN_mono ht (fun r s₂ hr => wpN_bindA (wpAny_holding (wpAny_point (wpN_pure hr)))) fun _ _ x => x)
  have marked (mk : Value) : wpN M A (callMarked mk f (first ++ a.pos) a.kw) Q E s₁ := by unfold callMarked; exact wpN_keep h₁.2
  rcases hk' with rfl | rfl | rfl <;> dsimp only <;> first | exact tail h₁.2 | (split <;> first | exact tail h₁.2 | exact tail (marked _))

noncomputable abbrev EX.wpn (X : EX) {α : Type} (t : Sem α) (R : α → Shared → Prop) (E : AH → Prop) (s : Shared) : Prop := wpN (model X.prog X.w) X.A t R (X.x E) s
noncomputable def EX.En (X : EX) (CN : CallT) (e : PySem.Expr) (a : AE) : Prop := ∀ (σ : AH) (s : Shared) (Q : VQ) (E : AH → Prop), X.S σ s → ewpN X.C CN a X.ρ σ Q E → X.wpn (eval e X.env) (X.q Q) E s
noncomputable def EX.Tn (X : EX) (CN : CallT) (e : PySem.Expr) (a : AE) : Prop := ∀ (σ : AH) (s : Shared) (Q : VQ) (E : AH → Prop), X.S σ s → (∀ x σ, Q x σ → Tb x) → ewpN X.C CN a X.ρ σ Q E → X.wpn (isTrue e X.env (eval e X.env)) (X.Tp Q) E s
noncomputable def EX.On (X : EX) (CN : CallT) (e : PySem.Expr) (a : AE) : Prop := X.En CN e a ∧ X.Tn CN e a
structure EX.GoodN (X : EX) (CN : CallT) : Prop where
  g : X.Good
  hCN : CSN X.prog X.w X.base X.os X.n CN
  hg : X.A.guards = some []
section
variable {X : EX} {E : AH → Prop}
theorem EX.On.both {e : PySem.Expr} {a : AE} (he : plainT e) (H : X.En CN e a) : X.On CN e a := by
  refine ⟨H, fun σ s Q E S ht h => ?_⟩
  rw [he]
  refine wpN_bind (QQ.bindN (H σ s Q E S h) fun x σ' v s' hv S' hq => ?_)
  refine wpN_bindA (wpAny_standAt (wpN_of (wpAny_holding ?_)))
  obtain ⟨b, t⟩ := ht x σ' hq
  exact tru_sound S' hv (t.tru (Q := fun c => c = b) rfl) fun c tk e' S'' => ⟨x, σ', e' ▸ t, S'', hq⟩
theorem XC.passN {L : Addr} {m : Str → Option Value} {t : Sem Value} {Q : Value → Shared → Prop} {E : AH → Prop} (h : wpN (model prog w) A t Q (XC prog w base os ((L, m) :: frs) E) s) : wpN (model prog w) A t Q (XE prog w base L frs os E) s :=
  wpN_mono h (fun _ _ q => q) fun _ _ q => q.toXE
theorem callN_fn (g : X.GoodN CN) {Q : VQ} {x : Str} {np pos : Pos} {a : AE} {as : List AE} {e : PySem.Expr} {es : List PySem.Expr} {f : Nat}
    (g1 : fnOk f x = true) (g2 : gl X.sc x = true) (H : X.El (a :: as) (e :: es)) (S : X.S σ s) (h : ewpL X.C (a :: as) X.ρ σ (fun xs σ' => CN f xs σ' Q E) E) : X.wpn (eval (.Call (.Name x np) (e :: es) [] pos) X.env) (X.q Q) E s := by
  obtain ⟨k1, k2⟩ := g.g.cx.kf.fn f x g1
  refine CallN_ (ldG g.g.cx g.g.EO S g2 k1 ?_)
  have he := H.1.2 es X.env
  have sp := spl_sound (pos := pos) H S h
  rw [he] at sp ⊢
  refine callWithN_of (P := X.K.In) (EvL.plain (pos := pos) (env := X.env) H.2 : _) (keeps_K k2) (evalArgs_plain ?_)
  exact wpAny_mono sp (fun vs s' ⟨xs, σ', h1, h2, h3⟩ => ⟨g.g.cx.kin.keeps h2.stays, XC.passN (g.hCN f xs σ' Q E X.A s' X.env X.outer X.L X.m X.frs vs g.g.ok g.hg h2 h1.1 h3)⟩) fun _ _ e => e
end
end Nm
end

section
open PySem PySem.W PySem.Calls PyProof.Rows
open PySem.Sem (wp)
set_option tactic.hygienic false
set_option maxRecDepth 100000
set_option maxHeartbeats 4000000
namespace Nm
namespace BA
theorem owner : Manifest.owners.lookup (String.ofList ['b', 'y', 't', 'e', 'a', 'r', 'r', 'a', 'y']) = some Manifest.sig_bytearray := by kernel_rfl
theorem plainAttrs : PlainAttrs "bytearray" :=
  ⟨⟨"bytearray.__getattribute__", by rw [typeLookup_type, builtinLookup_eq_fast]; kernel_rfl, by decide +kernel⟩, by rw [typeLookup_type, builtinLookup_eq_fast]; kernel_rfl⟩
theorem slotAppend : Slot "bytearray" "append" "bytearray.append" :=
  .of (owner := "bytearray") (n := "append") (by rw [typeLookup_type, builtinLookup_eq_fast]; kernel_rfl) (by decide +kernel) (by decide +kernel) (by decide +kernel)
    (by first | exact .inl (by decide +kernel) | exact .inr (by decide +kernel)) (by rw [isSubtype_type]; kernel_rfl)
theorem typeAppend : typeOf (.builtin "bytearray.append") = pure (.type "method_descriptor") := by show builtinType _ = _; rw [builtinType_eq_fast]; kernel_rfl
theorem entryAppend : entryFor table "bytearray.append" = some Builtin.«bytearray.append» := entryFor_of_tree (by kernel_rfl)
theorem argsAppend (a b : Value) : argsOk "bytearray.append" ⟨[a, b], []⟩ := by unfold argsOk; kernel_rfl
end BA
section
variable {prog : Program} {w : World} {A : Around} {E : Value → Shared → Prop} {s : Shared}

theorem getMethod_barr {a : Addr} {l : List UInt8} {pl : Sem Bool} {R : Value × List Value → Shared → Prop} (h1 : s.heap.get? a = some { cls := .type "bytearray", data := .bytearray l.toArray 0 }) (h : R (.builtin "bytearray.append", [.ref a]) s) :
    wpAny (model prog w) A (getMethod (.ref a) "append" pl) R E s :=
  getMethod_builtin ⟨_, h1, rfl⟩ BA.plainAttrs BA.slotAppend BA.typeAppend (fun b eb => by cases eb; exact ⟨_, h1, rfl⟩) h

theorem exportedN {M : Model} {v : Value} {Q : Bool → Shared → Prop} (hg : A.guards = some []) (h : Q false s) : wpN M A (Builtin.Bytes.exported v) Q E s := fun Γ p hΓ hc => by
  unfold Builtin.Bytes.exported
  show Q (((Γ.code, p) :: Γ.below).any _) s
  rw [List.any_eq_false.mpr]; exact h
  rintro ⟨c, q⟩ hx
  have h1 : noDec c = true := by
    rcases List.mem_cons.mp hx with e | hx
    · cases e; exact hc.1
    · exact hc.2 _ hx
  have h2 : c.isGuard = false := by
    have g0 : guardsOf ((Γ.code, p) :: Γ.below) = [] := by rw [guardsOf_cons]; exact hΓ.2.2.2.1 [] hg
    cases e : c.isGuard with
    | false => rfl
    | true =>
      have : c ∈ guardsOf ((Γ.code, p) :: Γ.below) := List.mem_filter.mpr ⟨List.mem_map.mpr ⟨_, hx, rfl⟩, e⟩
      rw [g0] at this; cases this
  refine fun e => Bool.false_ne_true (Eq.trans (Eq.symm ?_) e)
  cases c with
  | builtin id args =>
    have d1 : Builtin.Bytes.decodersThatHold.contains id = false := not1 h1
    have g : ∀ x, guardIds.contains x = true → ¬ id = x := fun x hx e => by
      subst e
      rw [show guardIds.contains id = false from h2] at hx; cases hx
    delta PySem.Builtin.Bytes.exported.match_1
    refine (dif_neg (g "bytearray.__contains__" (by decide +kernel))).trans ?_
    refine (dif_neg (g "bytearray.__mod__" (by decide +kernel))).trans ?_
    refine (dif_neg (g "bytearray.__rmod__" (by decide +kernel))).trans ?_
    refine (dif_neg (g "_struct.pack_into.held" (by decide +kernel))).trans ?_
    refine (dif_neg (g "bytearray.find.held" (by decide +kernel))).trans ?_
    obtain ⟨pos, kw⟩ := args
    cases pos with
    | nil => rfl
    | cons x r =>
      show (Builtin.Bytes.sameRef x v && Builtin.Bytes.decodersThatHold.contains id) = false
      rw [d1]; exact Bool.and_false _
  | _ => rfl

theorem codeN_builtin {R : Result → Shared → Prop} {id : String} {args : Args} {b : Builtin} (hn : Builtin.Bytes.decodersThatHold.contains id = false) (hb : entryFor table id = some b)
    (h : wpN (model prog w) (A.under (.builtin id args)) (b args) (fun fin s' => match fin with | .done f => R (.ok f) s' | .again c' => c'.quiet = true ∧ codeN (model prog w) A c' R s') (fun e s' => R (.error e) s') s) :
    codeN (model prog w) A (.builtin id args) R s := by
  refine codeN_of_tree (show (!(Builtin.Bytes.decodersThatHold.contains id)) = true by rw [hn]; rfl) ?_
  show wpN _ _ (match entryFor table id with | some b => b args | none => unsupported ((withoutEnding? id "#data").getD id)) _ _ s
  rw [hb]; exact h

theorem barr_append {a : Addr} {l : List UInt8} {i : Int} {t : Tok} (hg : A.guards = some []) (h1 : s.heap.get? a = some { cls := .type "bytearray", data := .bytearray l.toArray 0 }) (hl : l.length ≤ 1000) (h0 : 0 ≤ i) (h2 : i < 256) {R : Value → Shared → Prop}
    (h : ∀ k, R .none { s with heap := s.heap.update a (Obj.mapBytearray fun b => b.push (UInt8.ofNat i.toNat)), toks := k }) : wpN (model prog w) A (call (.builtin "bytearray.append") [.ref a, .int i t]) R E s := by
  refine wpN_call (codeN_of_tree rfl ?_)
  show wpN _ A.in1 (do checkBuiltinCall "bytearray.append" ⟨[.ref a, .int i t], []⟩; again (.builtin "bytearray.append" ⟨[.ref a, .int i t], []⟩)) _ _ s
  refine wpN_bindA (BA.slotAppend.check _ _ _ _ _ _ _ _ ⟨_, h1, rfl⟩ (BA.argsAppend _ _) (wpN_pure ⟨plainId_quiet BA.slotAppend.plain _, codeN_builtin (by decide +kernel) BA.entryAppend ?_⟩))
  rw [Around.under_plainId BA.slotAppend.plain _]
  unfold Builtin.«bytearray.append»
  refine wpN_bindA (wpAny_of_eq (a := (Value.ref a, Value.int i t)) rfl ?_)
  refine wpN_bindA ?_
  unfold Builtin.Bytes.byteValue
  refine wpAny_bind (wpAny_of_eq (a := i) rfl ?_)
  refine bm_if_false (by simp; omega) (wpAny_pure ?_)
  refine wpN_bind ?_
  unfold Builtin.Bytes.checkResize
  refine wpN_bind ?_
  show wpN _ _ (Builtin.Bytes.exported (.ref a) >>= _) _ _ _
  refine wpN_bind (exportedN hg ?_)
  refine wpN_of ?_
  show wpAny _ _ (Builtin.Bytes.exportsOf (.ref a) >>= _) _ _ _
  refine wpAny_bind ?_
  unfold Builtin.Bytes.exportsOf
  refine wpAny_bind (wpAny_load h1 (wpAny_pure (wpAny_pure ?_)))
  refine wpN_of_eq rfl ?_
  refine wpN_of ?_
  have hU : (s.heap.update a (Obj.mapBytearray fun b => b.push i.toNat.toUInt8)).get? a = some { cls := .type "bytearray", data := .bytearray (l.toArray.push i.toNat.toUInt8) 0 } := Heap.get?_update_self _ h1 rfl
  refine wpAny_bind ?_
  show wpAny _ _ (updateBytearray a _) _ _ _
  unfold updateBytearray
  refine wpAny_bind (wpAny_load h1 ?_)
  show wpAny _ _ (update a (Obj.mapBytearray (·.push i.toNat.toUInt8)) >>= fun _ => lookBehind a) _ _ _
  refine wpAny_bind (wpAny_update h1 (wpAny_lookBehind hU ?_ (wpAny_pure (h _))))
  show (if (l.toArray.push i.toNat.toUInt8).size > sizeLine then some "bytearray:memory" else none) = none
  rw [if_neg]
  rw [Array.size_push, List.size_toArray, sizeLine_eq]; omega

theorem wpN_ite_false {α : Type} {M : Model} {c : Bool} {a b : Sem α} {Q : α → Shared → Prop} (hc : c = false) (h : wpN M A b Q E s) : wpN M A (if c = true then a else b) Q E s := by
  subst hc
  exact h

namespace BA
theorem mro : mroOf (.type "bytearray") = pure [.type "bytearray", .type "object"] := by rw [mroOf_type]; kernel_rfl
theorem lookupNew : typeLookup (.type "bytearray") "__new__" = pure (some (.builtin "bytearray.__new__")) := by rw [typeLookup_type, builtinLookup_eq_fast]; kernel_rfl
theorem slotInit : Slot "bytearray" "__init__" "bytearray.__init__" :=
  .of (owner := "bytearray") (n := "__init__") (by rw [typeLookup_type, builtinLookup_eq_fast]; kernel_rfl) (by decide +kernel) (by decide +kernel) (by decide +kernel)
    (by first | exact .inl (by decide +kernel) | exact .inr (by decide +kernel)) (by rw [isSubtype_type]; kernel_rfl)
theorem called : TypeCalled "bytearray" "bytearray.__new__" "bytearray.__init__" :=
  ⟨by decide +kernel, by decide +kernel, ⟨_, _, mro⟩, madeBy_type mro lookupNew (by decide +kernel), by decide +kernel, by rw [isSubtype_type]; kernel_rfl, slotInit⟩
theorem typeCall : checkTypeCall "bytearray" ⟨[], []⟩ = pure () := by kernel_rfl
theorem newCall : checkBuiltinCall "bytearray.__new__" ⟨[.type "bytearray"], []⟩ = pure () := by kernel_rfl
theorem entryNew : entryFor table "bytearray.__new__" = some Builtin.«list.__new__» :=
  entryFor_alias (id' := "list.__new__") (by kernel_rfl) (by first | rfl | decide +kernel | (unfold String.splitOn; simp +decide [String.splitOnAux])) (by decide +kernel) (by kernel_rfl)
theorem entryInit : entryFor table "bytearray.__init__" = some Builtin.«bytearray.__init__» := entryFor_of_tree (by kernel_rfl)
theorem argsInit (a : Value) : argsOk "bytearray.__init__" ⟨[a], []⟩ := by unfold argsOk; kernel_rfl
theorem plainNew : plainId "bytearray.__new__" = true := by decide +kernel
set_option maxRecDepth 1000000 in
theorem ownerNew : ("bytearray.__new__".splitOn ".__new__").headD "" = "bytearray" := by simp +decide [String.splitOn, String.splitOnAux]
end BA

theorem code_barr_new {Q₁ : Value → Shared → Prop} (h : Q₁ (.ref s.heap.objs.size) { s with heap := s.heap.push { cls := .type "bytearray", data := .bytearray #[] 0 } }) :
    codeAny (model prog w) A (.call (.builtin "bytearray.__new__") ⟨[.type "bytearray"], []⟩) (wants Q₁ E) s := by
  refine codeAny_of_tree ?_
  show wpAny _ A.in1 (do checkBuiltinCall "bytearray.__new__" ⟨[.type "bytearray"], []⟩; again (.builtin "bytearray.__new__" ⟨[.type "bytearray"], []⟩)) _ _ s
  refine wpAny_bind (wpAny_of_eq BA.newCall (wpAny_pure ⟨plainId_quiet BA.plainNew _, codeAny_builtin_stack BA.entryNew rfl fun p st => ?_⟩))
  rw [Around.under_plainId BA.plainNew _]
  have hsub := BA.sub
  have hown := BA.ownerNew
  obtain ⟨hp, g, d, tk, os⟩ := s
  simp only [hown]
  wp_walk
  exact h

theorem barr_new (hg : A.guards = some []) {R : Value → Shared → Prop} (h : ∀ h' k, (∀ b o, s.heap.get? b = some o → h'.get? b = some o) → s.heap.get? s.heap.objs.size = none → h'.get? s.heap.objs.size = some { cls := .type "bytearray", data := .bytearray #[] 0 } → R (.ref s.heap.objs.size) { s with heap := h', toks := k }) :
    wpN (model prog w) A (call (.type "bytearray") []) R E s := by
  refine wpN_call (codeN_of_tree rfl ?_)
  show wpN _ A.in1 (callAny (.type "bytearray") ⟨[], []⟩) _ _ s
  refine wpN_pure ⟨Code.quiet_builtin _ (by decide +kernel), codeN_builtin (by decide +kernel) F.entry_type_call ?_⟩
  rw [Around.under_plain (weight_type_call_type "bytearray" [] []) rfl]
  have h1 := BA.called.notType
  have h2 := BA.called.canCreate
  unfold Builtin.«type.__call__»
  refine wpN_ite_false h1 ?_
  refine wpN_ite_false h2 ?_
  refine wpN_bindA (wpAny_of_eq BA.typeCall ?_)
  refine wpN_bindA (wpAny_of_eq BA.mro ?_)
  refine wpN_ite_false rfl ?_
  refine wpN_bindA (wpAny_of_eq BA.called.made ?_)
  refine wpN_bindA (wpAny_pure ?_)
  refine wpN_bindA (wpAny_holding (wpAny_call (codeAny_mono (code_barr_new (A := A.in1) (E := E) (Q₁ := fun obj s₁ => obj = .ref s.heap.objs.size ∧ s₁ = { s with heap := s.heap.push { cls := .type "bytearray", data := .bytearray #[] 0 } }) ⟨rfl, rfl⟩) fun r s₁ hr => ?_)))
  rcases r with e | (v | _ | _ | _) <;> first | exact hr | skip
  obtain ⟨rfl, rfl⟩ := hr
  have hat : (s.heap.push { cls := .type "bytearray", data := .bytearray #[] 0 }).get? s.heap.objs.size = some { cls := .type "bytearray", data := .bytearray #[] 0 } := Heap.get?_push_size _ rfl
  have hT : Shared.TypeIs { s with heap := s.heap.push { cls := .type "bytearray", data := .bytearray #[] 0 } } (.ref s.heap.objs.size) "bytearray" := ⟨_, hat, rfl⟩
  refine wpN_bindA (wpAny_isInstance hT BA.sub ?_)
  refine wpN_ite_false rfl ?_
  refine wpN_bind (wpN_holding ?_)
  unfold callSpecial?
  refine wpN_bindA (wpAny_specialOf hT BA.slotInit.lookup ?_)
  refine wpN_holding ?_
  refine wpN_bindA (wpAny_of_eq (BA.slotInit.bind _) ?_)
  refine wpN_bind (wpN_call (codeN_of_tree rfl ?_))
  show wpN _ A.in1.in1 (do checkBuiltinCall "bytearray.__init__" ⟨[.ref s.heap.objs.size], []⟩; again (.builtin "bytearray.__init__" ⟨[.ref s.heap.objs.size], []⟩)) _ _ _
  refine wpN_bindA (BA.slotInit.check _ _ _ _ _ _ _ _ hT (BA.argsInit _) (wpN_pure ⟨plainId_quiet BA.slotInit.plain _, codeN_builtin (by decide +kernel) BA.entryInit ?_⟩))
  rw [Around.under_plainId BA.slotInit.plain _]
  unfold Builtin.«bytearray.__init__»
  refine wpN_bindA ?_
  unfold Builtin.Bytes.ownRelease
  refine wpAny_bind (slotOwn hT BA.release BA.ends2 (by decide +kernel) (wpAny_pure ?_))
  refine wpN_ite_false rfl ?_
  refine wpN_bindA (wpAny_of_eq (a := [none, none, none]) (by kernel_rfl) ?_)
  refine wpN_bindA (wpAny_of_eq (a := ()) rfl ?_)
  refine wpN_bindA (wpAny_of_eq (a := ()) rfl ?_)
  refine wpN_bind ?_
  show wpN _ _ (Builtin.Bytes.exported (.ref s.heap.objs.size) >>= _) _ _ _
  refine wpN_bind (exportedN (by exact hg) ?_)
  refine wpN_of ?_
  show wpAny _ _ (Builtin.Bytes.exportsOf (.ref s.heap.objs.size) >>= _) _ _ _
  refine wpAny_bind ?_
  unfold Builtin.Bytes.exportsOf
  refine wpAny_bind (wpAny_load hat (wpAny_pure (wpAny_pure ?_)))
  refine wpN_ite_false rfl ?_
  refine wpN_of ?_
  have hU : ((s.heap.push { cls := .type "bytearray", data := .bytearray #[] 0 }).update s.heap.objs.size (Obj.mapBytearray fun _ => #[])).get? s.heap.objs.size = some { cls := .type "bytearray", data := .bytearray #[] 0 } := Heap.get?_update_self _ hat rfl
  refine wpAny_bind ?_
  show wpAny _ _ (updateBytearray s.heap.objs.size _) _ _ _
  unfold updateBytearray
  refine wpAny_bind (wpAny_load hat ?_)
  show wpAny _ _ (update s.heap.objs.size (Obj.mapBytearray fun _ => #[]) >>= fun _ => lookBehind s.heap.objs.size) _ _ _
  refine wpAny_bind (wpAny_update hat (wpAny_lookBehind hU rfl ?_))
  refine wpAny_bind (wpAny_of_eq (a := ()) rfl (wpAny_pure ?_))
  refine wpN_pure ?_
  refine wpN_of_eq (a := Fin.done (.ret (.ref s.heap.objs.size))) rfl ?_
  refine h _ _ (fun b o e => (Heap.get?_update_other _ _ (Nat.ne_of_gt (Heap.lt_size e))).trans (Heap.get?_push_of_some _ e)) (Heap.get?_none_of_le (Nat.le_refl _)) hU
end
end Nm
end

section
open PySem PySem.W PySem.Calls PyProof.Rows
open PySem.Sem (wp)
set_option tactic.hygienic false
set_option maxRecDepth 100000
set_option maxHeartbeats 2000000
namespace Nm

theorem ewpN_of {C CN : CallT} {a : AE} {ρ : List AV} {σ : AH} {Q : VQ} {E : AH → Prop} (h : nform a = false) : ewpN C CN a ρ σ Q E = ewp C a ρ σ Q E := by
  unfold ewpN
  rw [h]; rfl

variable {prog : Program} {w : World} {base : Heap} {frs : Frs} {os : OsState} {σ : AH} {s : Shared} {A : Around} {K : Frag} {mg mb : Str → Option Value}
variable {sc : Scope} {vars : List Str} {C CN : CallT} {n : Nat} {env : Env} {outer : List Env} {L : Addr} {m : Str → Option Value} {ρ : List AV}

theorem splicedN_cons {M : Model} {E : Value → Shared → Prop} {x : Sem Value} {rest : List (Bool × Sem Value)} {Q : List Value → Shared → Prop}
    (h : wpN M A x (fun v s₁ => wpN M A (spliced rest) (fun vs s₂ => Q (v :: vs) s₂) E s₁) E s) : wpN M A (spliced ((false, x) :: rest)) Q E s := by
  rw [spliced]
  refine wpN_bind (wpN_mono h (fun v s₁ h₁ => ?_) fun _ _ x => x)
  simp only [Bool.false_eq_true, if_false]
  exact wpN_bindA (wpAny_pure (wpN_bind (wpN_holding (wpN_mono h₁ (fun vs s₂ h₂ => wpN_pure h₂) fun _ _ x => x))))

theorem callWithN_plain {M : Model} {E : Value → Shared → Prop} {pos : Pos} {f : Value} {first : List Value} {Q : Value → Shared → Prop} {args : List (Bool × Sem Value)} (hplain : args.any (·.1) = false) (hk : keeperOf f = pure .machine)
    (h : wpAny M A (evalArgs f true args []) (fun a s₁ => wpN M A (call f (first ++ a.pos) a.kw) Q E s₁) E s) : wpN M A (callWith pos f first args []) Q E s := by
  unfold callWith
  refine wpN_bindA (wpAny_holding (wpAny_mono h (fun a s₁ h₁ => wpN_bindA (wpAny_standAt ?_)) fun _ _ x => x))
  simp only [hplain, List.any_nil, Bool.or_false]
  refine wpN_bindA (wpAny_of_eq hk ?_)
  exact wpN_bind (wpN_mono h₁ (fun r s₂ hr => wpN_bindA (wpAny_holding (wpAny_point (wpN_pure hr)))) fun _ _ x => x)

inductive NF : AE → Prop where
  | c1 (f : Nat) (a : AE) : NF (.call1 f a)
  | c2 (f : Nat) (a b : AE) : NF (.call2 f a b)
  | c3 (f : Nat) (a b c : AE) : NF (.call3 f a b c)
  | cm (o : COp) (f : Nat) (a b : AE) : NF (.cmp o (.call1 f a) b)
  | tp (a : AE) : NF (.tup2 a .barr)
  | ap : NF (.m1 .append (.loc 4) (.loc 5))
theorem isC1_inv {o : COp} {a b : AE} (h : isC1 a = true) : NF (.cmp o a b) := by cases a <;> first | exact (Bool.false_ne_true h).elim | exact .cm ..
theorem isBr_inv {a b : AE} (h : isBr b = true) : NF (.tup2 a b) := by cases b <;> first | exact (Bool.false_ne_true h).elim | exact .tp _
theorem isL4_inv {a b : AE} (h : isL45 a b = true) : a = .loc 4 ∧ b = .loc 5 := by
  have ha : ∃ i, a = .loc i := by cases a <;> first | exact (Bool.false_ne_true h).elim | exact ⟨_, rfl⟩
  obtain ⟨i, rfl⟩ := ha
  have hb : ∃ i, b = .loc i := by cases b <;> first | exact (Bool.false_ne_true h).elim | exact ⟨_, rfl⟩
  obtain ⟨j, rfl⟩ := hb
  have q := and2 (show (i == 4 && j == 5) = true from h)
  rw [beq_iff_eq.mp q.1, beq_iff_eq.mp q.2]; exact ⟨rfl, rfl⟩
theorem nform_inv {a : AE} (h : nform a = true) : NF a := by
  cases a <;> first | exact (Bool.false_ne_true h).elim | exact isC1_inv h | exact isBr_inv h | exact .c1 .. | exact .c2 .. | exact .c3 .. | skip
  cases m <;> first | exact (Bool.false_ne_true h).elim | skip
  obtain ⟨rfl, rfl⟩ := isL4_inv h
  exact .ap

theorem barrA {X : EX} (g : X.GoodN CN) {o y : PySem.Expr} {ap p : Pos} {Q : VQ} {E : AH → Prop} {t k : Nat} {bs : List Nat} (c1 : notCall o = true) (c2 : (ap.endLine == p.line) = true) (h1 : X.Ev o (.loc 4)) (h2 : X.Ev y (.loc 5)) (hs : ∀ r env, starEach (y :: r) env = (false, eval y env) :: starEach r env)
    (S : X.S σ s) (e4 : X.ρ.getD 4 .unb = .ref t) (et : σ t = some (.barr bs)) (e5 : X.ρ.getD 5 .unb = .int k) (k1 : (k : Int) < 256) (hlen : bs.length < 1000) (hq : Q .none (σ.set t (.barr (bs ++ [k])))) : X.wpn (eval (.Call (.Attribute o "append" ap) [y] [] p) X.env) (X.q Q) E s := by
  rw [mcall_eq c1 c2 (by rw [hs]; rfl)]
  refine wpN_bindA (QQ.bind (h1 σ s (fun x σ₁ => x = .ref t ∧ σ₁ = σ) E S ⟨by rw [e4]; nofun, e4, rfl⟩) fun x σ₁ v s₁ hv S₁ hx => ?_)
  obtain ⟨rfl, rfl⟩ := hx
  cases hv
  obtain ⟨hf, ⟨l, q1, rfl⟩, hb⟩ := S₁.ob _ _ et
  rw [List.length_map] at hlen
  refine wpN_bindA (wpAny_standAt (wpN_bindA (wpAny_holding (getMethod_barr q1 ?_))))
  have sp : X.wp (spliced (backTo p (starEach [y] X.env))) (fun vs s' => ∃ tk, vs = [.int k tk] ∧ X.S σ₁ s') E s₁ := by
    refine wpAny_mono (spl_sound (as := [.loc 5]) ⟨⟨h2, hs⟩, trivial⟩ S₁ (Q := fun xs σ' => xs = [.int k] ∧ σ' = σ₁) ⟨by rw [e5]; nofun, by rw [e5]; exact ⟨rfl, rfl⟩⟩) (fun vs s' ⟨xs, σ', h1, h2, h3, h4⟩ => ?_) fun _ _ e => e
    subst h3 h4
    cases vs with
    | nil => exact h1.1.elim
    | cons v vs' =>
      cases vs' with
      | nil => obtain ⟨⟨tk, e⟩, _⟩ := h1.1; subst e; exact ⟨tk, rfl, h2⟩
      | cons _ _ => exact h1.1.2.elim
  rw [hs] at sp ⊢
  refine callWithN_plain rfl rfl (evalArgs_plain (wpAny_mono sp (fun vs s₂ ⟨tk, e, S₂⟩ => ?_) fun _ _ x => x))
  subst e
  obtain ⟨hf, ⟨l', q2, el⟩, hb⟩ := S₂.ob _ _ et
  have hlen' : l'.length ≤ 1000 := by
    have := congrArg List.length el; rw [List.length_map, List.length_map] at this; omega
  refine barr_append g.hg q2 hlen' (Int.natCast_nonneg k) k1 fun kk => ?_
  refine ⟨.none, _, rfl, S₂.turn (o := .barr _) _ kk (fun b ob nb eb => (Heap.get?_update_other _ _ (Ne.symm nb)).trans eb) hb hf (fun ob es m q => by rw [q2] at q; cases q; exact (fun x => nomatch x)) ⟨hf, ⟨l' ++ [UInt8.ofNat k], ?_, ?_⟩, hb⟩, hq⟩
  · refine (Heap.get?_update_self _ q2 rfl).trans ?_
    simp [Obj.mapBytearray]
  · simp [el]; omega

theorem ev_sndN {X : EX} (g : X.GoodN CN) (a : AE) (e : PySem.Expr) (h : okE X.sc X.vars a e = true) : X.On CN (reE a e) a := by
  have ev : ∀ {e : PySem.Expr} {x : AE}, okE X.sc X.vars x e = true → X.Ev (reE x e) x := fun h => (ev_snd g.g _ _ h).1
  have sp : ∀ {b e}, okE X.sc X.vars b e = true → (X.Ev (reE b e) b ∧ ∀ r env, starEach (reE b e :: r) env = (false, eval (reE b e) env) :: starEach r env) := fun h => ⟨ev h, notStar h⟩
  have c1 : ∀ {f a e}, okE X.sc X.vars (.call1 f a) e = true → X.En CN (reE (.call1 f a) e) (.call1 f a) := fun h => and3 h fun g1 g2 h1 σ s Q E S h => callN_fn g (as := []) g1 g2 ⟨sp h1, trivial⟩ S h
  cases hn : nform a with
  | false =>
    refine ⟨fun σ s Q E S h' => ?_, fun σ s Q E S ht h' => ?_⟩
    · rw [ewpN_of hn] at h'; exact wpN_of ((ev_snd g.g _ _ h).1 σ s Q E S h')
    · rw [ewpN_of hn] at h'; exact wpN_of ((ev_snd g.g _ _ h).2 σ s Q E S ht h')
  | true =>
    cases nform_inv hn with
    | c1 f a => exact .both (fun _ _ => rfl) (c1 h)
    | c2 f a b => exact and4 h fun g1 g2 h1 h2 => .both (fun _ _ => rfl) fun σ s Q E S h => callN_fn g (as := [b]) g1 g2 ⟨sp h1, sp h2, trivial⟩ S h
    | c3 f a b c => exact and5 h fun g1 g2 h1 h2 h3 => .both (fun _ _ => rfl) fun σ s Q E S h => callN_fn g (as := [b, c]) g1 g2 ⟨sp h1, sp h2, sp h3, trivial⟩ S h
    | cm o f a b =>
      refine and3 h fun h1 h2 h3 => ?_
      have un : X.A.units + 64 < cLine := by have := g.g.ok.un; omega
      have hb : ∀ σ s (Q : VQ) E, X.S σ s → ewpN X.C CN (.cmp o (.call1 f a) b) X.ρ σ Q E → X.wpn (eval (reE (.call1 f a) (kid e 0)) X.env) (fun v s₁ => X.wp (eval (reE b (kid e 1)) X.env) (fun u s₂ => X.wp (compareOp (cmpOf o) v u) (X.q Q) E s₂) E s₁) E s := fun σ s Q E S h =>
        QQ.bindN (c1 h1 σ s (fun y σ₂ => ewp X.C b X.ρ σ₂ (fun z σ₃ => cmpV o y z σ₃ Q) E) E S h) fun x σ₁ v s₁ hv S₁ h₁ => QQ.bind (ev h2 σ₁ s₁ _ E S₁ h₁) fun y σ₂ u s₂ hu S₂ h₂ => cmp_sound o S₂ un hv hu h₂
      refine ⟨fun σ s Q E S h => wpN_Compare1 (hb σ s Q E S h) (not1 h3), fun σ s Q E S ht h => ?_⟩
      refine wpN_isTrue_Compare1 (wpN_mono (hb σ s Q E S h) (fun v s₁ h₁ => wpAny_mono h₁ (fun u s₂ h₂ => QQ.bind h₂ fun z σ₃ c s₃ hz S₃ hq => ?_) fun _ _ e => e) fun _ _ e => e) (not1 h3)
      obtain ⟨b, t⟩ := ht z σ₃ hq
      exact tru_sound S₃ hz (t.tru (Q := fun c => c = b) rfl) fun c tk e' S'' => ⟨z, σ₃, e' ▸ t, S'', hq⟩
    | tp a =>
      refine .both (fun _ _ => rfl) fun σ s Q E S h' => ?_
      have h1 := (and2 h).1
      show wpN (model X.prog X.w) X.A (do standAt e.pos; newTuple (← spliced (backTo e.pos (starEach [reE a (kid e 0), .Call (.Name "bytearray" (kid (kid e 1) 0).pos) [] [] (kid e 1).pos] X.env)))) _ _ s
      refine wpN_bindA (wpAny_standAt (wpN_bind ?_))
      rw [notStar h1]
      refine splicedN_cons (wpN_of (QQ.bind (ev h1 σ s _ E S h') fun v σ₁ u s₁ hv S₁ h₁ => ?_))
      refine splicedN_cons ?_
      refine CallN_ (ldB g.g.cx g.g.EO S₁ (and2 h).2 (g.g.cx.kf.nob _ (by decide)) (v := .type "bytearray") (by decide +kernel) (by decide) ?_)
      refine callWithN_plain rfl rfl (PyProof.Rows.evalArgs_nil3 ?_)
      refine barr_new g.hg fun h' tk kp hfree hat => ?_
      obtain ⟨f1, f2, f3⟩ := S₁.free hfree
      exact wpN_pure (wpN_of (newTup_sound (xs := [v, .ref s₁.heap.objs.size]) (S₁.new (o := .barr []) h' tk kp ⟨f2, ⟨[], hat, rfl⟩, f3⟩) ⟨hv, rfl, trivial⟩ (Nat.le_of_ble_eq_true rfl) (h₁ _ f1)))
    | ap =>
      refine and4 h fun c1 c2 h1 h2 => .both (fun _ _ => rfl) fun σ s Q E S h' => ?_
      rcases h' with ⟨t, bs, k, e4, et, e5, k0, k1, hlen, hq⟩ | h'
      · obtain ⟨k, rfl⟩ := Int.eq_ofNat_of_zero_le k0
        exact barrA g c1 c2 (ev h1) (ev h2) (notStar h2) S e4 et e5 k1 hlen hq
      · exact wpN_of ((ev_snd g.g _ _ h).1 σ s Q E S h')
theorem ev_soundN (cx : Cx K base mg mb) (hC : CS prog w base os n C) (hCN : CSN prog w base os n CN) {a : AE} {e : PySem.Expr} (h : okE sc vars a e = true) : EvN prog w base os sc vars C CN n (reE a e) a ∧ TrN prog w base os sc vars C CN n (reE a e) a :=
  ⟨fun A env outer L m frs σ s ρ Q E EO ok hg S lr h' => (ev_sndN (X := ⟨prog, w, base, os, K, mg, mb, sc, vars, C, n, A, env, outer, L, m, frs, ρ⟩) ⟨⟨cx, hC, EO, ok, lr⟩, hCN, hg⟩ a e h).1 σ s Q E S h',
    fun A env outer L m frs σ s ρ Q E EO ok hg S lr ht h' => (ev_sndN (X := ⟨prog, w, base, os, K, mg, mb, sc, vars, C, n, A, env, outer, L, m, frs, ρ⟩) ⟨⟨cx, hC, EO, ok, lr⟩, hCN, hg⟩ a e h).2 σ s Q E S ht h'⟩
end Nm
end

section
open PySem PySem.W PySem.Calls PyProof.Rows
open PySem.Sem (wp)
set_option tactic.hygienic false
set_option maxRecDepth 100000
set_option maxHeartbeats 2000000
namespace Nm

variable {prog : Program} {w : World} {base base' : Heap} {frs : Frs} {os : OsState} {σ : AH} {s : Shared} {A : Around} {K : Frag} {mg mb : Str → Option Value} {ks : List Addr}

section
variable (prog w os K mg mb)
noncomputable def StN (sc : Scope) (vars : List Str) (C CN : CallT) (n : Nat) (st : Stmt) (a : AS) : Prop :=
  ∀ (base : Heap) (A : Around) (env : Env) (outer : List Env) (L : Addr) (m : Str → Option Value) (frs : Frs) (σ : AH) (s : Shared) (ρ : List AV) (Q : SQ) (E : AH → Prop),
    Cx K base mg mb → EnvOK env sc L → Ok n A env outer L m frs → A.guards = some [] → St prog w base ((L, m) :: frs) os σ s → LR vars ρ m → swpN C CN a ρ σ Q E →
    wpN (model prog w) A (exec st env) (FQ prog w base os L frs vars Q) (XE prog w base L frs os E) s
noncomputable def BkN (sc : Scope) (vars : List Str) (C CN : CallT) (n : Nat) (b : List Stmt) (a : AS) : Prop :=
  ∀ (base : Heap) (A : Around) (env : Env) (outer : List Env) (L : Addr) (m : Str → Option Value) (frs : Frs) (σ : AH) (s : Shared) (ρ : List AV) (Q : SQ) (E : AH → Prop),
    Cx K base mg mb → EnvOK env sc L → Ok n A env outer L m frs → A.guards = some [] → St prog w base ((L, m) :: frs) os σ s → LR vars ρ m → swpN C CN a ρ σ Q E →
    wpN (model prog w) A (execs b env) (FQ prog w base os L frs vars Q) (XE prog w base L frs os E) s
end

/-- a while loop -/
theorem while_soundN {sc : Scope} {vars : List Str} {C CN : CallT} {n : Nat} {test : PySem.Expr} {body : List Stmt} {c : AE} {a : AS} {pos : Pos} {env : Env} {outer : List Env} {L : Addr} {m : Str → Option Value} {ρ : List AV} {Q : SQ} {E : AH → Prop}
    (cx : Cx K base mg mb) (EO : EnvOK env sc L) (ok : Ok n A env outer L m frs) (hg : A.guards = some []) (ht : TrAt prog w base os sc vars C n test c) (hb : BkN prog w os K mg mb sc vars C CN n body a)
    (S : St prog w base ((L, m) :: frs) os σ s) (lr : LR vars ρ m) (h : swpN C CN (.while c a) ρ σ Q E) :
    wpN (model prog w) A (exec (.While test body [] pos) env) (FQ prog w base os L frs vars Q) (XE prog w base L frs os E) s := by
  obtain ⟨k, h⟩ := h
  refine wpN_While (codeN_whileLoop (fun k s' => ∃ ρ σ m, St prog w base ((L, m) :: frs) os σ s' ∧ LR vars ρ m ∧ whileN (fun ρ σ q => ewp C c ρ σ q E) (fun ρ σ q => swpN C CN a ρ σ q E) Q k ρ σ) ?_ k ⟨ρ, σ, m, S, lr, h⟩)
  rintro k s ⟨ρ, σ, m, S, lr, h⟩
  cases k with
  | zero => exact (show False from h).elim
  | succ k =>
    have pass : ∀ e s', XE prog w base L frs os E e s' → notedBy (model prog w) A env (cameBackBy (model prog w) A env (XE prog w base L frs os E)) e s' := fun e s' x => XE.passes ok.fr (ok.any (m' := m)).ea x
    refine wpAny_mono (ht A env outer L m frs σ s ρ _ E EO ok.any S lr (fun x σ hx => truV.tb hx) h) (fun b s₂ ⟨x, σ', t, S', hq⟩ => ?_) pass
    have hq := truV.use hq t
    cases b with
    | false => exact wpN_of <| wpAny_execs_nil ⟨.next, ρ, σ', m, rfl, S', lr, hq⟩
    | true =>
      refine wpN_mono (hb base A env outer L m frs σ' s₂ ρ _ E cx EO ok.any hg S' lr hq) (fun f s₃ ⟨o, ρ₂, σ₂, m₂, hf, S₂, lr₂, hq₂⟩ => ?_) pass
      cases o with
      | next => cases hf; exact ⟨k, Nat.lt_succ_self k, ρ₂, σ₂, m₂, S₂, lr₂, hq₂⟩
      | ret v => obtain ⟨u, rfl, hv⟩ := hf; exact ⟨.ret v, ρ₂, σ₂, m₂, ⟨u, rfl, hv⟩, S₂, lr₂, hq₂⟩

/-- a for loop over what an iterator hands out -/
theorem for_coreN {X : Type} {xs : List X} {G : AH → Prop} {Sx : X → List AV → List AV} {sc : Scope} {vars : List Str} {C CN : CallT} {n : Nat} {body : List Stmt} {a : AS} {target : PySem.Expr} {it : Value} {env : Env} {outer : List Env} {L : Addr} {m : Str → Option Value} {ρ : List AV} {Q : SQ} {E : AH → Prop}
    (cx : Cx K base mg mb) (EO : EnvOK env sc L) (ok : Ok n A env outer L m frs) (hg : A.guards = some []) (hb : BkN prog w os K mg mb sc vars C CN n body a) (I : Nat → Heap → Prop)
    (kinds : ∀ i h, I i h → ∀ k ∈ ks, ∃ o, h.get? k = some o ∧ PinOb o)
    (frame : ∀ i h h', I i h → (∀ k ∈ ks, ∀ o, h.get? k = some o → h'.get? k = some o) → I i h')
    (turn : ∀ i x σ s m ρ (R : Shared → Prop) (E' : Value → Shared → Prop), xs[i]? = some x → I i s.heap → St prog w base ((L, m) :: frs) os σ s → Pins base (Frs.ad ((L, m) :: frs)) σ s.heap ks → G σ → LR vars ρ m →
      (∀ m' s', I (i + 1) s'.heap → St prog w base ((L, m') :: frs) os σ s' → LR vars (Sx x ρ) m' → R s') →
      wpAny (model prog w) A (pyNext it) (fun r s₁ => match r with
        | none => False
        | some v => wpAny (model prog w) A (letOwnedTupleGo target it v) (fun _ s₁' => wpAny (model prog w) A (assign target env v) (fun _ s₂ => R s₂) E' s₁') E' s₁) E' s)
    (done : ∀ σ s m (R : Shared → Prop) (E' : Value → Shared → Prop), I xs.length s.heap → St prog w base ((L, m) :: frs) os σ s → Pins base (Frs.ad ((L, m) :: frs)) σ s.heap ks → G σ →
      (∀ s', St prog w base ((L, m) :: frs) os σ s' → R s') → wpAny (model prog w) A (pyNext it) (fun r s₁ => match r with | none => R s₁ | some _ => False) E' s)
    (S : St prog w base ((L, m) :: frs) os σ s) (lr : LR vars ρ m) (P : Pins base (Frs.ad ((L, m) :: frs)) σ s.heap ks) (h0 : I 0 s.heap)
    (h : forN G Sx (fun ρ σ q => swpN C CN a ρ σ q E) Q xs ρ σ) :
    codeN (model prog w) A (.forLoop target it body [] env) (fun r s' => match r with | .ok f => FQ prog w base os L frs vars Q f s' | .error e => cameBackBy (model prog w) A env (XE prog w base L frs os E) e s') s := by
  refine codeN_forLoop (fun k s' => ∃ i ρ σ m, k + i = xs.length ∧ I i s'.heap ∧ St prog w base ((L, m) :: frs) os σ s' ∧ Pins base (Frs.ad ((L, m) :: frs)) σ s'.heap ks ∧ LR vars ρ m ∧
    forN G Sx (fun ρ σ q => swpN C CN a ρ σ q E) Q (xs.drop i) ρ σ) ?_ xs.length ⟨0, ρ, σ, m, rfl, h0, S, P, lr, by simpa using h⟩
  rintro k s ⟨i, ρ, σ, m, hk, hI, S, P, lr, h⟩
  have pass : ∀ e s', XE prog w base L frs os E e s' → notedBy (model prog w) A env (cameBackBy (model prog w) A env (XE prog w base L frs os E)) e s' := fun e s' x => XE.passes ok.fr (ok.any (m' := m)).ea x
  cases k with
  | zero =>
    have hi : i = xs.length := by omega
    subst hi
    rw [List.drop_length] at h
    refine wpAny_mono (done σ s m (fun s' => St prog w base ((L, m) :: frs) os σ s') _ hI S P h.1 fun _ x => x) (fun r s₁ h₁ => ?_) fun _ _ x => x
    cases r with
    | some v => exact h₁.elim
    | none => exact wpAny_execs_nil ⟨.next, ρ, σ, m, rfl, h₁, lr, h.2⟩
  | succ k =>
    have hi : i < xs.length := by omega
    rw [List.drop_eq_getElem_cons hi] at h
    refine wpAny_mono (turn i xs[i] σ s m ρ ?R _ (List.getElem?_eq_getElem hi) hI S P h.1 lr ?k) (fun r s₁ h₁ => ?g) fun _ _ x => x
    case g =>
      cases r with
      | none => exact h₁.elim
      | some v => exact h₁
    intro m' s' hI' S' lr'
    have P' : Pins base (Frs.ad ((L, m') :: frs)) σ s'.heap ks := P.move (kinds _ _ hI')
    have hs := pinned_stays (ks := ks) S'.stays
    refine wpN_mono (hb (pinned s'.heap base ks) A env outer L m' frs σ s' _ _ E (cx.pin hs) EO ok.any hg (S'.pin P') lr' h.2) (fun f s₃ ⟨o, ρ₂, σ₂, m₂, hf, S₂, lr₂, hq₂⟩ => ?_) fun e s₃ x => pass e s₃ (x.unpin hs)
    cases o with
    | next =>
      cases hf
      refine ⟨k, Nat.lt_succ_self k, i + 1, ρ₂, σ₂, m₂, by omega, frame _ _ _ hI' (fun q hq o e => S₂.stays _ _ (pinned_get e (.inr hq))), S₂.unpin hs, P'.again S₂ rfl, lr₂, hq₂⟩
    | ret v => obtain ⟨u, rfl, hv⟩ := hf; exact ⟨.ret v, ρ₂, σ₂, m₂, ⟨u, rfl, hv⟩, S₂.unpin hs, lr₂, hq₂⟩

variable {sc : Scope} {vars : List Str} {C CN : CallT} {n : Nat} {body : List Stmt} {a : AS} {env : Env} {outer : List Env} {L : Addr} {m : Str → Option Value} {ρ : List AV} {Q : SQ} {E : AH → Prop}

theorem forRange_soundN {i : Nat} {x : Str} {px : Pos} {N : Nat} {r : Addr} {t1 t2 t3 : Tok} (cx : Cx K base mg mb) (EO : EnvOK env sc L) (ok : Ok n A env outer L m frs) (hg : A.guards = some []) (hb : BkN prog w os K mg mb sc vars C CN n body a)
    (hN : vars.Nodup) (hi : vars[i]? = some x) (hx : sc.names.lookup x = some .local) (S : St prog w base ((L, m) :: frs) os σ s) (lr : LR vars ρ m) (hl : N ≤ 100) (hr : IsRange s.heap r 0 N 1 t1 t2 t3)
    (h : forN (fun _ => True) (fun (k : Nat) ρ => ρ.set i (.int k)) (fun ρ σ q => swpN C CN a ρ σ q E) Q (List.range N) ρ σ) :
    wpAny (model prog w) A (pyIter (.ref r)) (fun it s₂ => codeN (model prog w) A (.forLoop (.Name x px) it body [] env) (fun r s' => match r with | .ok f => FQ prog w base os L frs vars Q f s' | .error e => cameBackBy (model prog w) A env (XE prog w base L frs os E) e s') s₂) (XE prog w base L frs os E) s := by
  have hsz : Builtin.Range.rangeSize 0 N 1 = N := by rw [rangeSize_one]; split <;> omega
  refine wpAny_pyIter_range hr (small_one (by omega) (by omega) (by omega) (by omega)) ?_
  rw [hsz]
  have hat : IsRangeIter (s.heap.push { cls := .type "range_iterator", data := .fields #[rawInt 0, rawInt N, rawInt 1] }) s.heap.objs.size 0 N 1 := Heap.get?_push_size _ rfl
  have hk : ∀ b o, s.heap.get? b = some o → (s.heap.push { cls := .type "range_iterator", data := .fields #[rawInt 0, rawInt N, rawInt 1] }).get? b = some o := fun b o e => Heap.get?_push_of_some _ e
  have kinds : ∀ (i : Nat) h, IsRangeIter h s.heap.objs.size (i : Int) ((N : Int) - (i : Int)) 1 → ∀ k ∈ [s.heap.objs.size], ∃ o, h.get? k = some o ∧ PinOb o := fun i h hit k hk => by
    cases List.mem_singleton.mp hk
    exact ⟨_, hit, .inl ⟨_, rfl⟩⟩
  have I0 : IsRangeIter (s.heap.push { cls := .type "range_iterator", data := .fields #[rawInt 0, rawInt N, rawInt 1] }) s.heap.objs.size ((0 : Nat) : Int) ((N : Int) - ((0 : Nat) : Int)) 1 := by simpa using hat
  refine for_coreN (ks := [s.heap.objs.size]) cx EO ok hg hb (fun i h => IsRangeIter h s.heap.objs.size (i : Int) ((N : Int) - (i : Int)) 1) kinds (fun i h h' e kp => kp _ (.head _) _ e) ?_ ?_
    (S.grow _ s.toks hk) lr (S.newPins cx (fun k hk => by cases List.mem_singleton.mp hk; exact Nat.le_refl _) (kinds 0 _ I0)) I0 h
  · intro j y σ s₁ m ρ R E' hy hit S₁ P g lr₁ hR
    have hj : j < N := by have := (List.getElem?_eq_some_iff.mp hy).1; simpa using this
    have hyj : y = j := by rw [List.getElem?_range hj] at hy; cases hy; rfl
    subst hyj
    refine wpAny_pyNext_range_item hit (by omega) fun h' hit' hs => ?_
    refine wpAny_of_eq (a := ()) rfl ?_
    have S₂ := S₁.minor P h' (s₁.toks + 1) fun c o hc e => hs.extBut c o (fun q => hc (by rw [q]; exact .head _)) e
    refine wpAny_assign_Name (store_sound (a := .int y) EO S₂ lr₁ hN hi hx ⟨_, rfl⟩ fun m' s' S' lr' kp => hR m' s' ?_ S' lr')
    have e1 : ((y + 1 : Nat) : Int) = (y : Int) + 1 := by omega
    have e2 : (N : Int) - ((y + 1 : Nat) : Int) = (N : Int) - (y : Int) - 1 := by omega
    rw [e2, e1]
    exact kp _ _ (fun q => P.fr _ (.head _) (by rw [q]; exact .head _)) hit'
  · intro σ s₁ m R E' hit S₁ P g hR
    refine wpAny_pyNext_range_end ok.hh hit (by simp) fun h' hs => hR _ (S₁.minor P h' s₁.toks fun c o hc e => hs c o (fun q => hc (by rw [q]; exact .head _)) e)


theorem Assign_TupleN {M : Model} {E : Value → Shared → Prop} {elts : List PySem.Expr} {k : _} {tpos pos : Pos} {value : PySem.Expr} {Q : Flow → Shared → Prop}
    (h : wpN M A (eval value env) (fun v s₁ => wpAny M A (assign (.Tuple elts k tpos) env v) (fun _ => Q .next) E s₁) E s)
    (hs : swapsWithSole [.Tuple elts k tpos] value pos.line env = pure false) (hw : swappedStores [.Tuple elts k tpos] value env = pure none) :
    wpN M A (exec (.Assign [.Tuple elts k tpos] value pos) env) Q E s := by
  rw [exec_Assign]
  refine wpN_bindA (wpAny_standAt ?_)
  rw [hs]
  refine wpN_bindA (wpAny_pure ?_)
  rw [if_neg (by decide)]
  refine wpN_bind (wpN_mono h (fun v s₁ h₁ => ?_) fun _ _ x => x)
  rw [hw]
  refine wpN_bindA (wpAny_pure ?_)
  show wpN M A (do assignAll v [assign (.Tuple elts k tpos) env]; pure .next) Q E s₁
  exact wpN_of (wpAny_bind (wpAny_mono h₁ (fun _ _ x => wpAny_pure x) fun _ _ x => x))

theorem Assign_Tuple_swappedN {M : Model} {E : Value → Shared → Prop} {elts : List PySem.Expr} {k : _} {tpos pos : Pos} {value : PySem.Expr} {names : List Str} {Q : Flow → Shared → Prop}
    (h : wpN M A (eval value env) (fun v s₁ => wpAny M A (unpackItems v names.length none) (fun items s₂ =>
      wpAny M A (assignInOrder (names.reverse.map fun n => bindName env n) items.reverse) (fun _ => Q .next) E s₂) E s₁) E s)
    (hs : swapsWithSole [.Tuple elts k tpos] value pos.line env = pure false) (hw : swappedStores [.Tuple elts k tpos] value env = pure (some names)) :
    wpN M A (exec (.Assign [.Tuple elts k tpos] value pos) env) Q E s := by
  rw [exec_Assign]
  refine wpN_bindA (wpAny_standAt ?_)
  rw [hs]
  refine wpN_bindA (wpAny_pure ?_)
  rw [if_neg (by decide)]
  refine wpN_bind (wpN_mono h (fun v s₁ h₁ => ?_) fun _ _ x => x)
  rw [hw]
  refine wpN_bindA (wpAny_pure ?_)
  show wpN M A (do rule "assign.swapped-stores"; let items ← unpackItems v names.length none; assignInOrder (names.reverse.map fun n => bindName env n) items.reverse; pure .next) Q E s₁
  exact wpN_of (wpAny_bind (wpAny_rule (wpAny_bind (wpAny_mono h₁ (fun items s₂ h₂ => wpAny_bind (wpAny_mono h₂ (fun _ _ x => wpAny_pure x) fun _ _ x => x)) fun _ _ x => x))))

theorem asg2_soundN {i j : Nat} {x y : Str} {p1 p2 tp pos : Pos} {k : _} {v : PySem.Expr} {e : AE} {Q : SQ} {E : AH → Prop} (EO : EnvOK env sc L) (ok : Ok n A env outer L m frs) (hg : A.guards = some []) (hv : EvN prog w base os sc vars C CN n v e) (hN : vars.Nodup) (hi : vars[i]? = some x) (hx : sc.names.lookup x = some .local)
    (hj : vars[j]? = some y) (hy : sc.names.lookup y = some .local) (hij : i ≠ j) (hc : tupOk p1 [p2] v = true) (hn : notSwap v = true) (S : St prog w base ((L, m) :: frs) os σ s) (lr : LR vars ρ m) (h : swpN C CN (.asg2 i j e) ρ σ Q E) :
    wpN (model prog w) A (exec (.Assign [.Tuple [.Name x p1, .Name y p2] k tp] v pos) env) (FQ prog w base os L frs vars Q) (XE prog w base L frs os E) s := by
  have hne : x ≠ y := fun q => hij (nodup_at hN hi (q ▸ hj))
  rcases swapped2 (k := k) (tp := tp) EO hx hy hne hc with hw | hw
  · refine Assign_TupleN (QQ.bindN (hv A env outer L m frs σ s ρ _ E EO ok hg S lr h) fun u σ₁ val s₁ hu S₁ h₁ => ?_) (swap_sole hn _ _) hw
    obtain ⟨t, a, b, rfl, ht, hq⟩ := h₁
    cases hu
    obtain ⟨_, ⟨vs, z, q1, q2⟩, _⟩ := S₁.ob _ _ ht
    obtain ⟨v1, v2, rfl, r1, r2⟩ := arr2 q2
    exact unpack2_sound EO ok.hh hN hi hx hj hy S₁ lr ⟨_, q1, rfl, z, rfl⟩ r1 r2 fun m' s' S' lr' _ => ⟨.next, _, σ₁, m', rfl, S', lr', hq⟩
  · refine Assign_Tuple_swappedN (QQ.bindN (hv A env outer L m frs σ s ρ _ E EO ok hg S lr h) fun u σ₁ val s₁ hu S₁ h₁ => ?_) (swap_sole hn _ _) hw
    obtain ⟨t, a, b, rfl, ht, hq⟩ := h₁
    cases hu
    obtain ⟨_, ⟨vs, z, q1, q2⟩, _⟩ := S₁.ob _ _ ht
    obtain ⟨v1, v2, rfl, r1, r2⟩ := arr2 q2
    refine wpAny_unpackItems_tuple (items := #[v1, v2]) ok.hh ⟨_, q1, rfl, z, rfl⟩ fun h' he => ?_
    have S₂ := S₁.grow h' s₁.toks fun c o e => he c o (ne_of_there e) e
    show wpAny (model prog w) A (assignInOrder [bindName env y, bindName env x] [v2, v1]) _ _ _
    refine wpAny_assignInOrder_more (wpAny_bindName (store_sound EO S₂ lr hN hj hy r2 fun m₁ s₃ S₃ lr₃ k₃ => ?_))
    refine wpAny_assignInOrder_more (wpAny_bindName (store_sound EO S₃ lr₃ hN hi hx r1 fun m₂ s₄ S₄ lr₄ k₄ => wpAny_assignInOrder_none ⟨.next, _, σ₁, m₂, rfl, S₄, lr₄, ?_⟩))
    rw [List.set_comm b a (Ne.symm hij)]; exact hq

/-- the handler that gives none -/
theorem try_soundN {np hp rp kp pos : Pos} {ki : _} {E : AH → Prop} {Q : SQ} (cx : Cx K base mg mb) (EO : EnvOK env sc L) (ok : Ok n A env outer L m frs) (hg : A.guards = some []) (hb : BkN prog w os K mg mb sc vars C CN n body a)
    (S : St prog w base ((L, m) :: frs) os σ s) (lr : LR vars ρ m) (hx : gl sc "AssemblyFault" = true) (h : swpN C CN (.tryF a (.seq (.ret .none) .skip)) ρ σ Q E) :
    wpN (model prog w) A (exec (.Try body [.ExceptHandler (some (.Name "AssemblyFault" np)) none [.Return (some (.Constant .none ki kp)) rp] hp] [] [] pos) env) (FQ prog w base os L frs vars Q) (XE prog w base L frs os E) s := by
  refine wpN_Try_except (wpN_mono (hb base A env outer L m frs σ s ρ _ _ cx EO ok hg S lr h) (fun f s₁ q => try_end q) fun e s₁ ⟨e', σ₁, m₁, ex, S₁, X, hq⟩ => ?_)
  subst ex
  exact handler_ok cx EO (ok.any (m' := m₁)) S₁ X lr.1 hx hq

end Nm
end

section
open PySem PySem.W PySem.Calls PyProof.Rows
open PySem.Sem (wp)
set_option tactic.hygienic false
set_option maxRecDepth 100000
set_option maxHeartbeats 2000000
namespace Nm

variable {prog : Program} {w : World} {os : OsState} {K : Frag} {mg mb : Str → Option Value}

theorem stm_soundN {sc : Scope} {vars : List Str} {C CN : CallT} {n : Nat} (hN : vars.Nodup) (hC : ∀ base, Cx K base mg mb → CS prog w base os n C) (hCN : ∀ base, Cx K base mg mb → CSN prog w base os n CN) :
    ∀ (a : AS), (∀ st, okS sc vars a st = true → StN prog w os K mg mb sc vars C CN n (reS a st) a) ∧ (∀ b, okB sc vars a b = true → BkN prog w os K mg mb sc vars C CN n (reB a b) a) := by
  have ev : ∀ {base : Heap} {e : PySem.Expr} {x : AE}, Cx K base mg mb → okE sc vars x e = true → EvN prog w base os sc vars C CN n (reE x e) x := fun cx h => (ev_soundN cx (hC _ cx) (hCN _ cx) h).1
  have old : ∀ (a : AS), (∀ ρ σ Q E, swpN C CN a ρ σ Q E = swp C a ρ σ Q E) → ∀ st, okS sc vars a st = true → StN prog w os K mg mb sc vars C CN n (reS a st) a := fun a he st hc base A env outer L m frs σ s ρ Q E cx EO ok _ S lr h => by
    rw [he] at h
    exact wpN_of ((stm_sound hN hC a).1 st hc base A env outer L m frs σ s ρ Q E cx EO ok S lr h)
  intro a
  induction a with
  | skip => exact ⟨fun _ hc => (Bool.false_ne_true hc).elim, fun b _ base A env outer L m frs σ s ρ Q E cx EO ok hg S lr h => wpN_of (wpAny_execs_nil ⟨.next, ρ, σ, m, rfl, S, lr, h⟩)⟩
  | seq s t ihs iht =>
    refine ⟨fun _ hc => (Bool.false_ne_true hc).elim, fun b hc base A env outer L m frs σ s' ρ Q E cx EO ok hg S lr h => ?_⟩
    refine wpN_execs_cons (wpN_mono (ihs.1 _ (and2 hc).1 base A env outer L m frs σ s' ρ _ E cx EO ok hg S lr h) (fun f s₁ ⟨o, ρ₁, σ₁, m₁, hf, S₁, lr₁, hq⟩ => ?_) fun _ _ x => x)
    cases o with
    | next => cases hf; exact iht.2 _ (and2 hc).2 base A env outer L m₁ frs σ₁ s₁ ρ₁ Q E cx EO ok.any hg S₁ lr₁ hq
    | ret v => obtain ⟨u, rfl, hv⟩ := hf; exact ⟨.ret v, ρ₁, σ₁, m₁, ⟨u, rfl, hv⟩, S₁, lr₁, hq⟩
  | asg i e =>
    refine ⟨fun st hc base A env outer L m frs σ s ρ Q E cx EO ok hg S lr h => and4 hc fun hi hx he hn => ?_, fun _ hc => (Bool.false_ne_true hc).elim⟩
    refine wpN_Assign_Name (QQ.bindN (ev cx he A env outer L m frs σ s ρ _ E EO ok hg S lr h) fun v σ₁ u s₁ hv S₁ hq => ?_) (swap_none hn _ _)
    exact store_sound EO S₁ lr hN (beq_iff_eq.mp hi) (beq_iff_eq.mp hx) hv fun m' s' S' lr' _ => ⟨.next, _, σ₁, m', rfl, S', lr', hq.2⟩
  | asg2 i j e =>
    exact ⟨fun st hc base A env outer L m frs σ s ρ Q E cx EO ok hg S lr h => and8 hc fun ht hij hi hj hx hy he hn =>
      asg2_soundN EO ok hg (ev cx he) hN (beq_iff_eq.mp hi) (beq_iff_eq.mp hx) (beq_iff_eq.mp hj) (beq_iff_eq.mp hy) (of_decide_eq_true hij) ht hn S lr h, fun _ hc => (Bool.false_ne_true hc).elim⟩
  | asg3 i j k e => exact ⟨old _ fun _ _ _ _ => rfl, fun _ hc => (Bool.false_ne_true hc).elim⟩
  | setidx x y e => exact ⟨old _ fun _ _ _ _ => rfl, fun _ hc => (Bool.false_ne_true hc).elim⟩
  | ret e =>
    exact ⟨fun st hc base A env outer L m frs σ s ρ Q E cx EO ok hg S lr h => wpN_Return_some (QQ.bindN (ev cx hc A env outer L m frs σ s ρ _ E EO ok hg S lr h) fun v σ₁ u s₁ hv S₁ hq => ⟨.ret v, ρ, σ₁, m, ⟨u, rfl, hv⟩, S₁, lr, hq⟩),
      fun _ hc => (Bool.false_ne_true hc).elim⟩
  | ite c s t ihs iht =>
    refine ⟨fun st hc base A env outer L m frs σ s₀ ρ Q E cx EO ok hg S lr h => and3 hc fun he hs ht => ?_, fun _ hc => (Bool.false_ne_true hc).elim⟩
    refine wpN_If (wpN_mono ((ev_soundN cx (hC _ cx) (hCN _ cx) he).2 A env outer L m frs σ s₀ ρ _ E EO ok hg S lr (fun x σ hx => truV.tb hx) h) (fun b s₂ ⟨x, σ', t', S', hq⟩ => ?_) fun _ _ x => x)
    have hq := truV.use hq t'
    cases b with
    | true => exact ihs.2 _ hs base A env outer L m frs σ' s₂ ρ Q E cx EO ok hg S' lr hq
    | false => exact iht.2 _ ht base A env outer L m frs σ' s₂ ρ Q E cx EO ok hg S' lr hq
  | «while» c s ihs =>
    exact ⟨fun st hc base A env outer L m frs σ s₀ ρ Q E cx EO ok hg S lr h => while_soundN cx EO ok hg (ev_sound cx (hC _ cx) (and2 hc).1).2 (ihs.2 _ (and2 hc).2) S lr h, fun _ hc => (Bool.false_ne_true hc).elim⟩
  | forIn i e s ihs => exact ⟨old _ fun _ _ _ _ => rfl, fun _ hc => (Bool.false_ne_true hc).elim⟩
  | forZip i j e f s ihs => exact ⟨old _ fun _ _ _ _ => rfl, fun _ hc => (Bool.false_ne_true hc).elim⟩
  | forRange i N s ihs =>
    refine ⟨fun st hc base A env outer L m frs σ s₀ ρ Q E cx EO ok hg S lr h => and4 hc fun hgl hi hx hb => ?_, fun _ hc => (Bool.false_ne_true hc).elim⟩
    refine wpN_For ?_ (fun _ => rfl)
    refine Call_ (ldB cx EO S hgl (cx.kf.nob _ (by decide)) (v := .type "range") (by decide +kernel) (by decide) ?_)
    refine PyProof.Rows.callWith_type1 ?_ rfl rfl
    refine spliced_more (wpAny_Constant_int (spliced_none ?_)) rfl
    refine call_range_1 ?_
    exact forRange_soundN (N := N) cx EO ok hg (ihs.2 _ hb) hN (beq_iff_eq.mp hi) (beq_iff_eq.mp hx) (S.grow _ _ fun b o e => Heap.get?_push_of_some _ e) lr h.1 (IsRange.new ..) h.2
  | expr e =>
    refine ⟨fun st hc base A env outer L m frs σ s ρ Q E cx EO ok hg S lr h => ?_, fun _ hc => (Bool.false_ne_true hc).elim⟩
    have hs : env.scope.kind = .function := by rw [EO.scope]; exact EO.kind
    refine wpN_Expr_any (QQ.bindN (ev cx (and2 hc).1 A env outer L m frs σ s ρ _ E EO ok hg S lr h) fun v σ₁ u s₁ hv S₁ hq => ⟨.next, ρ, σ₁, m, rfl, S₁, lr, hq⟩) ?_ (swap_none (and2 hc).2 _ _)
    simp [interactive, hs]
  | fault i => exact ⟨old _ fun _ _ _ _ => rfl, fun _ hc => (Bool.false_ne_true hc).elim⟩
  | tryF s t ihs iht =>
    refine ⟨fun st hc base A env outer L m frs σ s₀ ρ Q E cx EO ok hg S lr h => and3 hc fun ht hgl hb => ?_, fun _ hc => (Bool.false_ne_true hc).elim⟩
    obtain rfl := isRN_inv ht
    exact try_soundN cx EO ok hg (ihs.2 _ hb) S lr hgl h

theorem body_soundN {sc : Scope} {vars : List Str} {C CN : CallT} {n : Nat} {a : AS} {b : List Stmt} (hN : vars.Nodup) (hC : ∀ base, Cx K base mg mb → CS prog w base os n C) (hCN : ∀ base, Cx K base mg mb → CSN prog w base os n CN) (h : okB sc vars a b = true) (e : reB a b = b) : BkN prog w os K mg mb sc vars C CN n b a := by
  have := (stm_soundN hN hC hCN a).2 b h
  rw [e] at this
  exact this
theorem cs_soundN {F : Nat → Option AFun} (hF : ∀ f fn, F f = some fn → FunOK K fn f) (n : Nat) : ∀ base, Cx K base mg mb → CSN prog w base os n (cwpN F n) := by
  induction n with
  | zero => exact fun _ _ f args σ Q E A s env outer L m frs vs ok hg S hv h => (show False from h).elim
  | succ n ih =>
    intro base cx f args σ Q E A s env outer L m frs vs ok hg S hv h
    unfold cwpN at h
    cases hs : nset f with
    | false =>
      rw [hs] at h
      exact wpN_of (cs_sound hF (n + 1) base cx f args σ Q E A s env outer L m frs vs ok S hv h)
    | true =>
    rw [hs] at h
    obtain ⟨fn, hfn, hlen, hnu, h⟩ := h
    have H := hF f fn hfn
    obtain ⟨o, ho, hd⟩ := isFnAt_inv H.isf
    have X := cx.kin.keeps S.stays
    refine and6 H.ok fun hcd hchk h3 h4 hcell hloc => and3 h4 fun hco hgen hk => ?_
    refine wpN_call (codeN_call_def (binds := (fn.vars.take fn.np).zip vs) (Nat.lt_of_le_of_lt (Nat.le_add_right _ (n + 3)) ok.dep) (X _ _ ho) hd (cx.lim.imp fun mc h => ⟨h.1.keeps S.stays, h.2⟩) (codeRec_of X hcd) H.stm (BindsTo.of_eq (H.bind vs (hv.length.symm.trans hlen)))
      (noCell hcell) (fun x hx => beq_iff_eq.mp (List.all_eq_true.mp hloc _ (List.of_mem_zip hx).1)) (fun h₀ hns hk₀ => ?_) (not1 hco) (not1 hgen) (beq_iff_eq.mp hk))
    have e := call_entry H ok.hh ok.fr ok.ea ok.dep1 ok.un1 S hv hlen hns hk₀
    exact wpN_mono (body_soundN (of_decide_eq_true (and2 h3).1) (cs_sound hF n) ih hchk H.re base _ _ _ _ _ _ _ _ _ _ E cx e.EO e.ok hg e.S e.lr h) (fun fl s' q => call_leaves q) fun e' s' x => XE.leaves e.ok.fr e.ok.ea x
end Nm
end

section
open PySem
namespace Nm

/-- is_number(self); locals 0=self -/
noncomputable def body_is_number : AS :=
  (.seq (.ret (.and (.cmp .eq (.attr (.loc 0) 0) (.str [])) (.cmp .eq (.attr (.loc 0) 1) (.str []))))
    .skip)

/-- number_end(row, at); locals 0=row 1=at 2=end -/
noncomputable def body_number_end : AS :=
  (.seq (.asg 2 (.loc 1))
    (.seq (.while (.and (.cmp .lt (.loc 2) (.b1 .len (.loc 0))) (.cmp .isin (.idx (.loc 0) (.loc 2)) (.gv 2)))
      (.seq (.asg 2 (.bin .add (.loc 2) (.int 1)))
        .skip))
    (.seq (.ret (.loc 2))
    .skip)))

/-- number_value(text); locals 0=text 1=base 2=digits 3=value 4=sign 5=place -/
noncomputable def body_number_value : AS :=
  (.seq (.asg2 1 2 (.tup2 (.int 10) (.loc 0)))
    (.seq (.ite (.cmp .isin (.slc (.loc 0) .none (.int 2)) (.tup2 (.str [48, 120]) (.str [48, 88])))
      (.seq (.asg2 1 2 (.tup2 (.int 16) (.slc (.loc 0) (.int 2) .none)))
        .skip)
      (.seq (.ite (.cmp .isin (.slc (.loc 0) .none (.int 2)) (.tup2 (.str [48, 98]) (.str [48, 66])))
          (.seq (.asg2 1 2 (.tup2 (.int 2) (.slc (.loc 0) (.int 2) .none)))
            .skip)
          (.seq (.ite (.and (.cmp .eq (.slc (.loc 0) .none (.int 1)) (.str [48])) (.cmp .gt (.b1 .len (.loc 0)) (.int 1)))
              (.seq (.asg2 1 2 (.tup2 (.int 8) (.slc (.loc 0) (.int 1) .none)))
                .skip)
              .skip)
            .skip))
        .skip))
    (.seq (.asg 3 (.int 0))
    (.seq (.forIn 4 (.m0 .lower (.loc 2))
      (.seq (.asg 5 (.m1 .find (.str [48, 49, 50, 51, 52, 53, 54, 55, 56, 57, 97, 98, 99, 100, 101, 102]) (.loc 4)))
        (.seq (.ite (.or (.cmp .lt (.loc 5) (.int 0)) (.cmp .ge (.loc 5) (.loc 1)))
          (.seq (.ret (.neg (.int 1)))
            .skip)
          .skip)
        (.seq (.asg 3 (.bin .add (.bin .mul (.loc 3) (.loc 1)) (.loc 5)))
        .skip))))
    (.seq (.ret (.ife (.cmp .ne (.loc 2) (.str [])) (.loc 3) (.neg (.int 1))))
    .skip)))))

/-- quoted(row, at, line); locals 0=row 1=at 2=line 3=quote 4=found 5=octet -/
noncomputable def body_quoted : AS :=
  (.seq (.asg2 3 4 (.tup2 (.idx (.loc 0) (.bin .sub (.loc 1) (.int 1))) .barr))
    (.seq (.while (.and (.cmp .lt (.loc 1) (.b1 .len (.loc 0))) (.cmp .ne (.idx (.loc 0) (.loc 1)) (.loc 3)))
      (.seq (.ite (.cmp .eq (.idx (.loc 0) (.loc 1)) (.str [92]))
          (.seq (.asg2 5 1 (.call3 23 (.loc 0) (.bin .add (.loc 1) (.int 1)) (.loc 2)))
            .skip)
          (.seq (.asg2 5 1 (.tup2 (.bin .band (.b1 .ord (.idx (.loc 0) (.loc 1))) (.int 255)) (.bin .add (.loc 1) (.int 1))))
            .skip))
        (.seq (.expr (.m1 .append (.loc 4) (.loc 5)))
        .skip)))
    (.seq (.ite (.cmp .ge (.loc 1) (.b1 .len (.loc 0)))
      (.seq (.fault 2)
        .skip)
      .skip)
    (.seq (.ret (.tup2 (.b1 .bytes (.loc 4)) (.bin .add (.loc 1) (.int 1))))
    .skip))))

/-- pieces_of(row, line); locals 0=row 1=line 2=found 3=at 4=sign 5=end 6=octets -/
noncomputable def body_pieces_of : AS :=
  (.seq (.asg2 2 3 (.tup2 .lst0 (.int 0)))
    (.seq (.while (.and (.cmp .lt (.loc 3) (.b1 .len (.loc 0))) (.cmp .ne (.idx (.loc 0) (.loc 3)) (.str [35])))
      (.seq (.asg 4 (.idx (.loc 0) (.loc 3)))
        (.seq (.ite (.cmp .isin (.loc 4) (.str [32, 9, 13]))
          (.seq (.asg 3 (.bin .add (.loc 3) (.int 1)))
            .skip)
          (.seq (.ite (.cmp .isin (.loc 4) (.gv 1))
              (.seq (.asg 5 (.call2 1 (.loc 0) (.loc 3)))
                (.seq (.expr (.m1 .append (.loc 2) (.call2 5 (.slc (.loc 0) (.loc 3) (.loc 5)) (.loc 1))))
                (.seq (.asg 3 (.loc 5))
                .skip)))
              (.seq (.ite (.or (.cmp .isin (.loc 4) (.gv 0)) (.and (.cmp .eq (.loc 4) (.str [37])) (.cmp .isin (.slc (.loc 0) (.loc 3) (.call2 1 (.loc 0) (.bin .add (.loc 3) (.int 1)))) (.gv 3))))
                  (.seq (.asg 5 (.call2 1 (.loc 0) (.bin .add (.loc 3) (.int 1))))
                    (.seq (.expr (.m1 .append (.loc 2) (.mk 1 (.str [110, 97, 109, 101]) (.slc (.loc 0) (.loc 3) (.loc 5)) (.int 0))))
                    (.seq (.asg 3 (.loc 5))
                    .skip)))
                  (.seq (.ite (.cmp .isin (.loc 4) (.str [34, 39]))
                      (.seq (.asg2 6 3 (.call3 3 (.loc 0) (.bin .add (.loc 3) (.int 1)) (.loc 1)))
                        (.seq (.ite (.and (.cmp .eq (.loc 4) (.str [39])) (.cmp .ne (.b1 .len (.loc 6)) (.int 1)))
                          (.seq (.fault 1)
                            .skip)
                          .skip)
                        (.seq (.expr (.m1 .append (.loc 2) (.ife (.cmp .eq (.loc 4) (.str [34])) (.mk 1 (.str [115, 116, 114, 105, 110, 103]) (.str []) (.loc 6)) (.mk 1 (.str [110, 117, 109, 98, 101, 114]) (.str []) (.idx (.loc 6) (.int 0))))))
                        .skip)))
                      (.seq (.ite (.cmp .isin (.slc (.loc 0) (.loc 3) (.bin .add (.loc 3) (.int 2))) (.tup2 (.str [60, 60]) (.str [62, 62])))
                          (.seq (.expr (.m1 .append (.loc 2) (.mk 1 (.str [115, 105, 103, 110]) (.slc (.loc 0) (.loc 3) (.bin .add (.loc 3) (.int 2))) (.int 0))))
                            (.seq (.asg 3 (.bin .add (.loc 3) (.int 2)))
                            .skip))
                          (.seq (.ite (.cmp .isin (.loc 4) (.str [43, 45, 42, 47, 37, 38, 124, 94, 126, 40, 41, 44, 58, 59, 61, 64]))
                              (.seq (.expr (.m1 .append (.loc 2) (.mk 1 (.str [115, 105, 103, 110]) (.loc 4) (.int 0))))
                                (.seq (.asg 3 (.bin .add (.loc 3) (.int 1)))
                                .skip))
                              (.seq (.fault 1)
                                .skip))
                            .skip))
                        .skip))
                    .skip))
                .skip))
            .skip))
        .skip)))
    (.seq (.ret (.loc 2))
    .skip)))

/-- numbered(text, line); locals 0=text 1=line 2=value -/
noncomputable def body_numbered : AS :=
  (.seq (.ite (.and (.cmp .isin (.slc (.loc 0) (.neg (.int 1)) .none) (.tup2 (.str [102]) (.str [98]))) (.and (.m0 .isdigit (.slc (.loc 0) .none (.neg (.int 1)))) (.not (.m1 .startswith (.loc 0) (.str [48, 98])))))
      (.seq (.ret (.mk 1 (.str [110, 101, 97, 114]) (.loc 0) (.int 0)))
        .skip)
      .skip)
    (.seq (.asg 2 (.call1 2 (.loc 0)))
    (.seq (.ite (.cmp .lt (.loc 2) (.int 0))
      (.seq (.fault 1)
        .skip)
      .skip)
    (.seq (.ret (.mk 1 (.str [110, 117, 109, 98, 101, 114]) (.loc 0) (.loc 2)))
    .skip))))

/-- worked_out(op, one, other, line); locals 0=op 1=one 2=other 3=line 4=left 5=right 6=whole 7=rest -/
noncomputable def body_worked_out : AS :=
  (.seq (.ite (.and (.cmp .eq (.loc 0) (.str [43])) (.and (.or (.cmp .eq (.attr (.loc 1) 0) (.str [])) (.cmp .eq (.attr (.loc 2) 0) (.str []))) (.or (.cmp .eq (.attr (.loc 1) 1) (.str [])) (.cmp .eq (.attr (.loc 2) 1) (.str [])))))
      (.seq (.ret (.call1 7 (.mk 0 (.or (.attr (.loc 1) 0) (.attr (.loc 2) 0)) (.or (.attr (.loc 1) 1) (.attr (.loc 2) 1)) (.bin .add (.attr (.loc 1) 2) (.attr (.loc 2) 2)))))
        .skip)
      .skip)
    (.seq (.ite (.and (.cmp .eq (.loc 0) (.str [45])) (.and (.or (.cmp .eq (.attr (.loc 1) 0) (.str [])) (.cmp .eq (.attr (.loc 2) 1) (.str []))) (.or (.cmp .eq (.attr (.loc 1) 1) (.str [])) (.cmp .eq (.attr (.loc 2) 0) (.str [])))))
      (.seq (.ret (.call1 7 (.mk 0 (.or (.attr (.loc 1) 0) (.attr (.loc 2) 1)) (.or (.attr (.loc 1) 1) (.attr (.loc 2) 0)) (.bin .sub (.attr (.loc 1) 2) (.attr (.loc 2) 2)))))
        .skip)
      .skip)
    (.seq (.ite (.or (.not (.meth 0 (.loc 1))) (.or (.not (.meth 0 (.loc 2))) (.cmp .isin (.loc 0) (.str [43, 45]))))
      (.seq (.fault 3)
        .skip)
      .skip)
    (.seq (.asg2 4 5 (.tup2 (.attr (.loc 1) 2) (.attr (.loc 2) 2)))
    (.seq (.ite (.and (.cmp .isin (.loc 0) (.tup2 (.str [47]) (.str [37]))) (.cmp .eq (.loc 5) (.int 0)))
      (.seq (.fault 3)
        .skip)
      .skip)
    (.seq (.ite (.and (.cmp .isin (.loc 0) (.tup2 (.str [60, 60]) (.str [62, 62]))) (.not (.chain (.int 0) .le (.loc 5) .lt (.int 64))))
      (.seq (.fault 3)
        .skip)
      .skip)
    (.seq (.ite (.cmp .eq (.loc 0) (.str [47]))
      (.seq (.asg 6 (.bin .fdiv (.b1 .abs (.loc 4)) (.b1 .abs (.loc 5))))
        (.seq (.ret (.mk 0 (.str []) (.str []) (.ife (.cmp .eq (.cmp .lt (.loc 4) (.int 0)) (.cmp .lt (.loc 5) (.int 0))) (.loc 6) (.neg (.loc 6)))))
        .skip))
      .skip)
    (.seq (.ite (.cmp .eq (.loc 0) (.str [37]))
      (.seq (.asg 7 (.bin .mod (.b1 .abs (.loc 4)) (.b1 .abs (.loc 5))))
        (.seq (.ret (.mk 0 (.str []) (.str []) (.ife (.cmp .lt (.loc 4) (.int 0)) (.neg (.loc 7)) (.loc 7))))
        .skip))
      .skip)
    (.seq (.ite (.cmp .eq (.loc 0) (.str [42]))
      (.seq (.ret (.mk 0 (.str []) (.str []) (.bin .mul (.loc 4) (.loc 5))))
        .skip)
      .skip)
    (.seq (.ite (.cmp .eq (.loc 0) (.str [60, 60]))
      (.seq (.ret (.mk 0 (.str []) (.str []) (.bin .shl (.loc 4) (.loc 5))))
        .skip)
      .skip)
    (.seq (.ite (.cmp .eq (.loc 0) (.str [62, 62]))
      (.seq (.ret (.mk 0 (.str []) (.str []) (.bin .shr (.loc 4) (.loc 5))))
        .skip)
      .skip)
    (.seq (.ite (.cmp .eq (.loc 0) (.str [38]))
      (.seq (.ret (.mk 0 (.str []) (.str []) (.bin .band (.loc 4) (.loc 5))))
        .skip)
      .skip)
    (.seq (.ret (.mk 0 (.str []) (.str []) (.ife (.cmp .eq (.loc 0) (.str [124])) (.bin .bor (.loc 4) (.loc 5)) (.bin .bxor (.loc 4) (.loc 5)))))
    .skip)))))))))))))

/-- cancelled(found); locals 0=found -/
noncomputable def body_cancelled : AS :=
  (.seq (.ret (.ife (.cmp .eq (.attr (.loc 0) 0) (.attr (.loc 0) 1)) (.mk 0 (.str []) (.str []) (.attr (.loc 0) 2)) (.loc 0)))
    .skip)

/-- reduced(sums, signs, level, line); locals 0=sums 1=signs 2=level 3=line 4=op 5=other -/
noncomputable def body_reduced : AS :=
  (.seq (.while (.and (.cmp .ne (.loc 1) .lst0) (.and (.cmp .ne (.idx (.loc 1) (.neg (.int 1))) (.str [40])) (.or (.cmp .eq (.idx (.idx (.loc 1) (.neg (.int 1))) (.int 0)) (.str [117])) (.cmp .ge (.idx (.gv 4) (.idx (.loc 1) (.neg (.int 1)))) (.loc 2)))))
      (.seq (.asg 4 (.m0 .pop (.loc 1)))
        (.seq (.asg 5 (.m0 .pop (.loc 0)))
        (.seq (.ite (.cmp .eq (.loc 4) (.str [117, 43]))
          (.seq (.expr (.m1 .append (.loc 0) (.loc 5)))
            .skip)
          (.seq (.ite (.cmp .eq (.loc 4) (.str [117, 45]))
              (.seq (.expr (.m1 .append (.loc 0) (.call4 6 (.str [45]) (.mk 0 (.str []) (.str []) (.int 0)) (.loc 5) (.loc 3))))
                .skip)
              (.seq (.ite (.cmp .eq (.loc 4) (.str [117, 126]))
                  (.seq (.expr (.m1 .append (.loc 0) (.call4 6 (.str [94]) (.mk 0 (.str []) (.str []) (.neg (.int 1))) (.loc 5) (.loc 3))))
                    .skip)
                  (.seq (.expr (.m1 .append (.loc 0) (.call4 6 (.loc 4) (.m0 .pop (.loc 0)) (.loc 5) (.loc 3))))
                    .skip))
                .skip))
            .skip))
        .skip))))
    .skip)

/-- closed(sums, signs, line); locals 0=sums 1=signs 2=line -/
noncomputable def body_closed : AS :=
  (.seq (.expr (.call4 8 (.loc 0) (.loc 1) (.int 0) (.loc 2)))
    (.seq (.ite (.cmp .eq (.loc 1) .lst0)
      (.seq (.fault 2)
        .skip)
      .skip)
    (.seq (.expr (.m0 .pop (.loc 1)))
    .skip)))

/-- expression_of(pieces, told, line); locals 0=pieces 1=told 2=line 3=sums 4=signs 5=wants 6=piece 7=value 8=text -/
noncomputable def body_expression_of : AS :=
  (.seq (.asg3 3 4 5 (.tup3 .lst0 .lst0 (.bool true)))
    (.seq (.forZip 6 7 (.loc 0) (.loc 1)
      (.seq (.asg 8 (.ife (.cmp .is (.loc 7) .none) (.attr (.loc 6) 4) (.str [])))
        (.seq (.ite (.and (.loc 5) (.cmp .isin (.loc 8) (.tup3 (.str [43]) (.str [45]) (.str [126]))))
          (.seq (.expr (.m1 .append (.loc 4) (.bin .add (.str [117]) (.loc 8))))
            .skip)
          (.seq (.ite (.and (.loc 5) (.cmp .eq (.loc 8) (.str [40])))
              (.seq (.expr (.m1 .append (.loc 4) (.str [40])))
                .skip)
              (.seq (.ite (.and (.loc 5) (.cmp .isnot (.loc 7) .none))
                  (.seq (.expr (.m1 .append (.loc 3) (.loc 7)))
                    (.seq (.asg 5 (.bool false))
                    .skip))
                  (.seq (.ite (.and (.not (.loc 5)) (.cmp .eq (.loc 8) (.str [41])))
                      (.seq (.expr (.call3 9 (.loc 3) (.loc 4) (.loc 2)))
                        .skip)
                      (.seq (.ite (.and (.not (.loc 5)) (.cmp .isin (.loc 8) (.gv 4)))
                          (.seq (.expr (.call4 8 (.loc 3) (.loc 4) (.idx (.gv 4) (.loc 8)) (.loc 2)))
                            (.seq (.expr (.m1 .append (.loc 4) (.loc 8)))
                            (.seq (.asg 5 (.bool true))
                            .skip)))
                          (.seq (.fault 2)
                            .skip))
                        .skip))
                    .skip))
                .skip))
            .skip))
        .skip)))
    (.seq (.ite (.loc 5)
      (.seq (.fault 2)
        .skip)
      .skip)
    (.seq (.expr (.call4 8 (.loc 3) (.loc 4) (.int 0) (.loc 2)))
    (.seq (.ite (.cmp .ne (.loc 4) .lst0)
      (.seq (.fault 2)
        .skip)
      .skip)
    (.seq (.ret (.idx (.loc 3) (.int 0)))
    .skip))))))

/-- _law_ranks(); locals  -/
noncomputable def body_law_ranks : AS :=
  (.seq (.ret (.dictI [([42], 3), ([47], 3), ([37], 3), ([60, 60], 2), ([62, 62], 2), ([38], 2), ([94], 2), ([124], 2), ([43], 1), ([45], 1)]))
    .skip)

/-- _law_draw(well, size); locals 0=well 1=size -/
noncomputable def body_law_draw : AS :=
  (.seq (.ite (.cmp .lt (.idx (.loc 0) (.int 1)) (.b1 .len (.idx (.loc 0) (.int 0))))
      (.seq (.setidx (.loc 0) (.int 1) (.bin .add (.idx (.loc 0) (.int 1)) (.int 1)))
        (.seq (.setidx (.loc 0) (.int 2) (.bin .mod (.bin .add (.bin .add (.bin .mul (.idx (.loc 0) (.int 2)) (.int 37)) (.idx (.idx (.loc 0) (.int 0)) (.bin .sub (.idx (.loc 0) (.int 1)) (.int 1)))) (.int 11)) (.int 9973)))
        (.seq (.ret (.bin .mod (.idx (.idx (.loc 0) (.int 0)) (.bin .sub (.idx (.loc 0) (.int 1)) (.int 1))) (.loc 1)))
        .skip)))
      .skip)
    (.seq (.setidx (.loc 0) (.int 2) (.bin .mod (.bin .add (.bin .mul (.idx (.loc 0) (.int 2)) (.int 37)) (.int 11)) (.int 9973)))
    (.seq (.ret (.bin .mod (.idx (.loc 0) (.int 2)) (.loc 1)))
    .skip)))

/-- _law_figures(value, base); locals 0=value 1=base 2=found -/
noncomputable def body_law_figures : AS :=
  (.seq (.asg 2 (.str []))
    (.seq (.while (.cmp .ge (.loc 0) (.loc 1))
      (.seq (.asg 2 (.bin .add (.idx (.str [48, 49, 50, 51, 52, 53, 54, 55, 56, 57, 97, 98, 99, 100, 101, 102]) (.bin .mod (.loc 0) (.loc 1))) (.loc 2)))
        (.seq (.asg 0 (.bin .fdiv (.loc 0) (.loc 1)))
        .skip)))
    (.seq (.ret (.bin .add (.idx (.str [48, 49, 50, 51, 52, 53, 54, 55, 56, 57, 97, 98, 99, 100, 101, 102]) (.loc 0)) (.loc 2)))
    .skip)))

/-- _law_leaf(well); locals 0=well 1=form 2=value -/
noncomputable def body_law_leaf : AS :=
  (.seq (.asg 1 (.call2 12 (.loc 0) (.int 8)))
    (.seq (.asg 2 (.idx (.tupI [0, 1, 2, 3, 7, 8, 31, 63, 64, 255, 4096, 65535, 1000000007]) (.call2 12 (.loc 0) (.int 13))))
    (.seq (.ite (.cmp .lt (.loc 1) (.int 3))
      (.seq (.ret (.tup3 (.str [110, 117, 109, 98, 101, 114]) (.loc 2) (.call2 13 (.loc 2) (.int 10))))
        .skip)
      .skip)
    (.seq (.ite (.cmp .eq (.loc 1) (.int 3))
      (.seq (.ret (.tup3 (.str [110, 117, 109, 98, 101, 114]) (.loc 2) (.bin .add (.str [48, 120]) (.call2 13 (.loc 2) (.int 16)))))
        .skip)
      .skip)
    (.seq (.ite (.cmp .eq (.loc 1) (.int 4))
      (.seq (.ret (.tup3 (.str [110, 117, 109, 98, 101, 114]) (.loc 2) (.bin .add (.str [48, 98]) (.call2 13 (.loc 2) (.int 2)))))
        .skip)
      .skip)
    (.seq (.ite (.cmp .eq (.loc 1) (.int 5))
      (.seq (.ret (.tup3 (.str [110, 117, 109, 98, 101, 114]) (.loc 2) (.bin .add (.str [48]) (.ife (.cmp .gt (.loc 2) (.int 0)) (.call2 13 (.loc 2) (.int 8)) (.str [])))))
        .skip)
      .skip)
    (.seq (.ite (.cmp .eq (.loc 1) (.int 6))
      (.seq (.ret (.tup3 (.str [110, 117, 109, 98, 101, 114]) (.bin .add (.int 97) (.bin .mod (.loc 2) (.int 26))) (.bin .add (.bin .add (.str [39]) (.b1 .chr (.bin .add (.int 97) (.bin .mod (.loc 2) (.int 26))))) (.str [39]))))
        .skip)
      .skip)
    (.seq (.ret (.tup3 (.str [110, 97, 109, 101]) (.idx (.tup2 (.str [111, 110, 101]) (.str [95, 116, 119, 111, 46, 50])) (.bin .mod (.loc 2) (.int 2))) (.str [])))
    .skip))))))))

/-- _law_tree(well, many); locals 0=well 1=many 2=mark 3=left -/
noncomputable def body_law_tree : AS :=
  (.seq (.ite (.cmp .lt (.loc 1) (.int 1))
      (.seq (.ret (.call1 14 (.loc 0)))
        .skip)
      .skip)
    (.seq (.ite (.cmp .eq (.call2 12 (.loc 0) (.int 5)) (.int 0))
      (.seq (.ret (.tup3 (.str [97, 104, 101, 97, 100]) (.idx (.str [45, 43, 126]) (.call2 12 (.loc 0) (.int 3))) (.call2 15 (.loc 0) (.bin .sub (.loc 1) (.int 1)))))
        .skip)
      .skip)
    (.seq (.asg 2 (.idx (.gv 5) (.call2 12 (.loc 0) (.int 10))))
    (.seq (.asg 3 (.call2 12 (.loc 0) (.loc 1)))
    (.seq (.ret (.tup4 (.str [98, 111, 116, 104]) (.loc 2) (.call2 15 (.loc 0) (.loc 3)) (.call2 15 (.loc 0) (.bin .sub (.bin .sub (.loc 1) (.int 1)) (.loc 3)))))
    .skip)))))

/-- _law_rank(tree); locals 0=tree -/
noncomputable def body_law_rank : AS :=
  (.seq (.ite (.cmp .eq (.idx (.loc 0) (.int 0)) (.str [98, 111, 116, 104]))
      (.seq (.ret (.idx (.call0 11 ) (.idx (.loc 0) (.int 1))))
        .skip)
      .skip)
    (.seq (.ret (.ife (.cmp .eq (.idx (.loc 0) (.int 0)) (.str [97, 104, 101, 97, 100])) (.int 4) (.int 5)))
    .skip))

/-- _law_written(well, tree, least); locals 0=well 1=tree 2=least 3=blank 4=found 5=own -/
noncomputable def body_law_written : AS :=
  (.seq (.asg 3 (.bin .mul (.str [32]) (.call2 12 (.loc 0) (.int 2))))
    (.seq (.ite (.cmp .eq (.idx (.loc 1) (.int 0)) (.str [110, 117, 109, 98, 101, 114]))
      (.seq (.asg 4 (.idx (.loc 1) (.int 2)))
        .skip)
      (.seq (.ite (.cmp .eq (.idx (.loc 1) (.int 0)) (.str [110, 97, 109, 101]))
          (.seq (.asg 4 (.idx (.loc 1) (.int 1)))
            .skip)
          (.seq (.ite (.cmp .eq (.idx (.loc 1) (.int 0)) (.str [97, 104, 101, 97, 100]))
              (.seq (.asg 4 (.bin .add (.bin .add (.idx (.loc 1) (.int 1)) (.loc 3)) (.call3 17 (.loc 0) (.idx (.loc 1) (.int 2)) (.int 4))))
                .skip)
              (.seq (.asg 5 (.call1 16 (.loc 1)))
                (.seq (.asg 4 (.bin .add (.bin .add (.bin .add (.bin .add (.call3 17 (.loc 0) (.idx (.loc 1) (.int 2)) (.loc 5)) (.loc 3)) (.idx (.loc 1) (.int 1))) (.loc 3)) (.call3 17 (.loc 0) (.idx (.loc 1) (.int 3)) (.bin .add (.loc 5) (.int 1)))))
                .skip)))
            .skip))
        .skip))
    (.seq (.ite (.or (.cmp .lt (.call1 16 (.loc 1)) (.loc 2)) (.cmp .eq (.call2 12 (.loc 0) (.int 9)) (.int 0)))
      (.seq (.ret (.bin .add (.bin .add (.bin .add (.bin .add (.str [40]) (.loc 3)) (.loc 4)) (.loc 3)) (.str [41])))
        .skip)
      .skip)
    (.seq (.ret (.loc 4))
    .skip))))

/-- _law_added(one, other); locals 0=one 1=other 2=plus 3=minus -/
noncomputable def body_law_added : AS :=
  (.seq (.asg2 2 3 (.tup2 (.bin .add (.idx (.loc 0) (.int 0)) (.idx (.loc 1) (.int 0))) (.bin .add (.idx (.loc 0) (.int 1)) (.idx (.loc 1) (.int 1)))))
    (.seq (.ite (.or (.cmp .gt (.b1 .len (.loc 2)) (.int 1)) (.cmp .gt (.b1 .len (.loc 3)) (.int 1)))
      (.seq (.ret .none)
        .skip)
      .skip)
    (.seq (.ite (.cmp .eq (.loc 2) (.loc 3))
      (.seq (.ret (.tup3 .lst0 .lst0 (.bin .add (.idx (.loc 0) (.int 2)) (.idx (.loc 1) (.int 2)))))
        .skip)
      .skip)
    (.seq (.ret (.tup3 (.loc 2) (.loc 3) (.bin .add (.idx (.loc 0) (.int 2)) (.idx (.loc 1) (.int 2)))))
    .skip))))

/-- _law_reckoned(mark, left, right); locals 0=mark 1=left 2=right 3=whole -/
noncomputable def body_law_reckoned : AS :=
  (.seq (.ite (.cmp .isin (.loc 0) (.tup2 (.str [47]) (.str [37])))
      (.seq (.ite (.cmp .eq (.loc 2) (.int 0))
          (.seq (.ret .none)
            .skip)
          .skip)
        (.seq (.asg 3 (.bin .fdiv (.b1 .abs (.loc 1)) (.b1 .abs (.loc 2))))
        (.seq (.asg 3 (.ife (.cmp .eq (.cmp .lt (.loc 1) (.int 0)) (.cmp .lt (.loc 2) (.int 0))) (.loc 3) (.neg (.loc 3))))
        (.seq (.ret (.ife (.cmp .eq (.loc 0) (.str [47])) (.loc 3) (.bin .sub (.loc 1) (.bin .mul (.loc 3) (.loc 2)))))
        .skip))))
      .skip)
    (.seq (.ite (.cmp .isin (.loc 0) (.tup2 (.str [60, 60]) (.str [62, 62])))
      (.seq (.ite (.or (.cmp .lt (.loc 2) (.int 0)) (.cmp .gt (.loc 2) (.int 63)))
          (.seq (.ret .none)
            .skip)
          .skip)
        (.seq (.ret (.ife (.cmp .eq (.loc 0) (.str [60, 60])) (.bin .mul (.loc 1) (.bin .pow (.int 2) (.loc 2))) (.bin .fdiv (.loc 1) (.bin .pow (.int 2) (.loc 2)))))
        .skip))
      .skip)
    (.seq (.ite (.cmp .eq (.loc 0) (.str [42]))
      (.seq (.ret (.bin .mul (.loc 1) (.loc 2)))
        .skip)
      .skip)
    (.seq (.ret (.ife (.cmp .eq (.loc 0) (.str [38])) (.bin .band (.loc 1) (.loc 2)) (.ife (.cmp .eq (.loc 0) (.str [124])) (.bin .bor (.loc 1) (.loc 2)) (.bin .bxor (.loc 1) (.loc 2)))))
    .skip))))

/-- _law_comes_to(tree); locals 0=tree 1=one 2=other 3=number -/
noncomputable def body_law_comes_to : AS :=
  (.seq (.ite (.cmp .eq (.idx (.loc 0) (.int 0)) (.str [110, 117, 109, 98, 101, 114]))
      (.seq (.ret (.tup3 .lst0 .lst0 (.idx (.loc 0) (.int 1))))
        .skip)
      .skip)
    (.seq (.ite (.cmp .eq (.idx (.loc 0) (.int 0)) (.str [110, 97, 109, 101]))
      (.seq (.ret (.tup3 (.lst1 (.idx (.loc 0) (.int 1))) .lst0 (.int 0)))
        .skip)
      .skip)
    (.seq (.asg 1 (.call1 20 (.idx (.loc 0) (.int 2))))
    (.seq (.ite (.cmp .is (.loc 1) .none)
      (.seq (.ret .none)
        .skip)
      .skip)
    (.seq (.ite (.cmp .eq (.idx (.loc 0) (.int 0)) (.str [97, 104, 101, 97, 100]))
      (.seq (.ite (.cmp .eq (.idx (.loc 0) (.int 1)) (.str [43]))
          (.seq (.ret (.loc 1))
            .skip)
          .skip)
        (.seq (.ite (.cmp .eq (.idx (.loc 0) (.int 1)) (.str [45]))
          (.seq (.ret (.tup3 (.idx (.loc 1) (.int 1)) (.idx (.loc 1) (.int 0)) (.neg (.idx (.loc 1) (.int 2)))))
            .skip)
          .skip)
        (.seq (.ret (.ife (.cmp .eq (.slc (.loc 1) .none (.int 2)) (.tup2 .lst0 .lst0)) (.tup3 .lst0 .lst0 (.bin .sub (.neg (.int 1)) (.idx (.loc 1) (.int 2)))) .none))
        .skip)))
      .skip)
    (.seq (.asg 2 (.call1 20 (.idx (.loc 0) (.int 3))))
    (.seq (.ite (.cmp .is (.loc 2) .none)
      (.seq (.ret .none)
        .skip)
      .skip)
    (.seq (.ite (.cmp .eq (.idx (.loc 0) (.int 1)) (.str [43]))
      (.seq (.ret (.call2 18 (.loc 1) (.loc 2)))
        .skip)
      .skip)
    (.seq (.ite (.cmp .eq (.idx (.loc 0) (.int 1)) (.str [45]))
      (.seq (.ret (.call2 18 (.loc 1) (.tup3 (.idx (.loc 2) (.int 1)) (.idx (.loc 2) (.int 0)) (.neg (.idx (.loc 2) (.int 2))))))
        .skip)
      .skip)
    (.seq (.ite (.or (.cmp .ne (.slc (.loc 1) .none (.int 2)) (.tup2 .lst0 .lst0)) (.cmp .ne (.slc (.loc 2) .none (.int 2)) (.tup2 .lst0 .lst0)))
      (.seq (.ret .none)
        .skip)
      .skip)
    (.seq (.asg 3 (.call3 19 (.idx (.loc 0) (.int 1)) (.idx (.loc 1) (.int 2)) (.idx (.loc 2) (.int 2))))
    (.seq (.ret (.ife (.cmp .is (.loc 3) .none) .none (.tup3 .lst0 .lst0 (.loc 3))))
    .skip))))))))))))

/-- _law_read(text); locals 0=text 1=pieces 2=sums 3=piece 4=got -/
noncomputable def body_law_read : AS :=
  (.seq (.tryF
      (.seq (.asg 1 (.call2 4 (.loc 0) (.int 1)))
        (.seq (.asg 2 .lst0)
        (.seq (.forIn 3 (.loc 1)
          (.seq (.ite (.cmp .eq (.attr (.loc 3) 3) (.str [115, 105, 103, 110]))
              (.seq (.expr (.m1 .append (.loc 2) .none))
                .skip)
              (.seq (.expr (.m1 .append (.loc 2) (.ife (.cmp .eq (.attr (.loc 3) 3) (.str [110, 117, 109, 98, 101, 114])) (.mk 0 (.str []) (.str []) (.attr (.loc 3) 5)) (.mk 0 (.attr (.loc 3) 4) (.str []) (.int 0)))))
                .skip))
            .skip))
        (.seq (.asg 4 (.call3 10 (.loc 1) (.loc 2) (.int 1)))
        .skip))))
      (.seq (.ret .none)
        .skip))
    (.seq (.ret (.tup3 (.ife (.cmp .ne (.attr (.loc 4) 0) (.str [])) (.lst1 (.attr (.loc 4) 0)) .lst0) (.ife (.cmp .ne (.attr (.loc 4) 1) (.str [])) (.lst1 (.attr (.loc 4) 1)) .lst0) (.attr (.loc 4) 2)))
    .skip))

/-- law(script); locals 0=script 1=well 2=turn 3=tree -/
noncomputable def body_law : AS :=
  (.seq (.asg 1 (.lst3 .comp (.int 0) (.int 1)))
    (.seq (.forRange 2 2
      (.seq (.asg 3 (.call2 15 (.loc 1) (.ife (.cmp .eq (.loc 2) (.int 0)) (.call2 12 (.loc 1) (.int 10)) (.call2 12 (.loc 1) (.int 4)))))
        (.seq (.ite (.cmp .ne (.call1 21 (.call3 17 (.loc 1) (.loc 3) (.int 0))) (.call1 20 (.loc 3)))
          (.seq (.ret (.bool false))
            .skip)
          .skip)
        .skip)))
    (.seq (.ret (.cmp .is (.call1 21 (.idx (.gv 6) (.call2 12 (.loc 1) (.b1 .len (.gv 6))))) .none))
    .skip)))

/-- the defs -/
noncomputable def progL : List AFun := [
  { nm := "is_number", np := 1, vars := ["self"], body := body_is_number },
  { nm := "number_end", np := 2, vars := ["row", "at", "end"], body := body_number_end },
  { nm := "number_value", np := 1, vars := ["text", "base", "digits", "value", "sign", "place"], body := body_number_value },
  { nm := "quoted", np := 3, vars := ["row", "at", "line", "quote", "found", "octet"], body := body_quoted },
  { nm := "pieces_of", np := 2, vars := ["row", "line", "found", "at", "sign", "end", "octets"], body := body_pieces_of },
  { nm := "numbered", np := 2, vars := ["text", "line", "value"], body := body_numbered },
  { nm := "worked_out", np := 4, vars := ["op", "one", "other", "line", "left", "right", "whole", "rest"], body := body_worked_out },
  { nm := "cancelled", np := 1, vars := ["found"], body := body_cancelled },
  { nm := "reduced", np := 4, vars := ["sums", "signs", "level", "line", "op", "other"], body := body_reduced },
  { nm := "closed", np := 3, vars := ["sums", "signs", "line"], body := body_closed },
  { nm := "expression_of", np := 3, vars := ["pieces", "told", "line", "sums", "signs", "wants", "piece", "value", "text"], body := body_expression_of },
  { nm := "_law_ranks", np := 0, vars := [], body := body_law_ranks },
  { nm := "_law_draw", np := 2, vars := ["well", "size"], body := body_law_draw },
  { nm := "_law_figures", np := 2, vars := ["value", "base", "found"], body := body_law_figures },
  { nm := "_law_leaf", np := 1, vars := ["well", "form", "value"], body := body_law_leaf },
  { nm := "_law_tree", np := 2, vars := ["well", "many", "mark", "left"], body := body_law_tree },
  { nm := "_law_rank", np := 1, vars := ["tree"], body := body_law_rank },
  { nm := "_law_written", np := 3, vars := ["well", "tree", "least", "blank", "found", "own"], body := body_law_written },
  { nm := "_law_added", np := 2, vars := ["one", "other", "plus", "minus"], body := body_law_added },
  { nm := "_law_reckoned", np := 3, vars := ["mark", "left", "right", "whole"], body := body_law_reckoned },
  { nm := "_law_comes_to", np := 1, vars := ["tree", "one", "other", "number"], body := body_law_comes_to },
  { nm := "_law_read", np := 1, vars := ["text", "pieces", "sums", "piece", "got"], body := body_law_read },
  { nm := "law", np := 1, vars := ["script", "well", "turn", "tree"], body := body_law }]
noncomputable def theProg (f : Nat) : Option AFun := progL[f]?

end Nm
end

section
open PySem PySem.W PySem.Calls PyProof.Rows
open PySem.Sem (wp)
set_option tactic.hygienic false
set_option maxRecDepth 100000
namespace Nm

noncomputable abbrev caller0 : Ctx := ⟨.builtin "claim.caller" {}, none, none, [], none⟩
theorem caller_calm : Calm caller0 := ⟨by decide +kernel, fun x hx => by cases hx⟩

theorem thread_endsN {prog : Program} {w : World} {t : Sem Fin} {s : Shared} {R : Result → Shared → Prop} (hreg : s.asleep)
    (h : wpN (model prog w) callerA t (fun fin s' => ∃ f, fin = .done f ∧ (R (.ok f) s' ∧ leftWithCleanup s'.gens = false)) (fun e s' => R (.error e) s' ∧ leftWithCleanup s'.gens = false) s) :
    ∃ n r s' s'', runN (denote table) prog w n s ⟨t, .builtin "claim.caller" {}, default, []⟩ = .halted (outcomeOf r) s' ∧
      schedN (denote table) prog w n (.single s ⟨t, .builtin "claim.caller" {}, default, []⟩) = .halted (outcomeOf r) s' ∧ s'.forget = s''.forget ∧ R r s'' := by
  have hw : wp (model prog w) caller0 t (Sem.finPost (model prog w) caller0 fun r s' => R r s' ∧ leftWithCleanup s'.gens = false) (fun e _ s' => R (.error e) s' ∧ leftWithCleanup s'.gens = false) default s := by
    refine Sem.wp_mono _ caller0 t (fun fin p' s' h' => ?_) (fun _ _ _ h' => h') default s (h caller0 default caller_in caller_calm)
    obtain ⟨f, rfl, hf⟩ := h'
    exact hf
  obtain ⟨n, r, s₁, s₂, hs, hn, hfo, hR⟩ := wp_halts_full (M := model prog w) (R := R) hreg hw
  exact ⟨n, r, s₂, s₁, hn, hs, hfo, hR⟩

theorem callFromN {c : ClaimW} {tree : List Value → Sem Fin} {w : World} {s : Shared} {free : Addr → Prop} {gens : Prop} {kept : Heap → Prop} (hz : s.asleep) (hgens : s.gens = #[])
    (hspec : ∀ args, c.pre args = true → WData.layableAll args = true →
      ∀ ord : List DictEntry → List DictEntry, (∀ l, (ord l).Perm l) →
      ∃ vs s₁, layAllW c.records (classAt s.heap) w.params ord args s = some (vs, s₁) ∧
        wpN (model c.prog w) callerA (tree vs) (fun fin s' => ∃ f, fin = .done f ∧ (c.Ends s args vs s₁ (.ok f) s' ∧ s'.os = s.os ∧ AllBare s'.gens ∧ kept s'.heap))
          (fun e s' => c.Ends s args vs s₁ (.error e) s' ∧ s'.os = s.os ∧ AllBare s'.gens ∧ kept s'.heap) s₁) :
    c.CallFrom (fun vs => ⟨tree vs, .builtin "claim.caller" {}, default, []⟩) w free gens kept s := by
  intro args hpre hlay ord hord
  obtain ⟨vs, s₁, hlaid, hcode⟩ := hspec args hpre hlay ord hord
  have hal := layAllW_rest _ _ _ hlaid
  obtain ⟨k, r, s', s'', hrun, hsched, hfo, hcase, hos, hkp⟩ := thread_endsN (prog := c.prog) (w := w) (t := tree vs) (s := s₁)
    (R := fun r s' => c.Ends s args vs s₁ r s' ∧ s'.os = s.os ∧ kept s'.heap)
    (Shared.asleep_of_life hal.2.2.2 hz)
    (wpN_mono hcode (by
      rintro fin s' ⟨f, e, h1, h2, h3, h4⟩
      exact ⟨f, e, ⟨h1, h2, h4⟩, leftWithCleanup_false_of_bare h3⟩) (by
      rintro e s' ⟨h1, h2, h3, h4⟩
      exact ⟨⟨h1, h2, h4⟩, leftWithCleanup_false_of_bare h3⟩))
  obtain ⟨eh, _, _, eo, _⟩ := Shared.forget_eq hfo
  have hcase := hcase.congr eh
  have hkp : kept s'.heap := by first | exact eh ▸ hkp | (rw [eh] at hkp; exact hkp) | (rw [← eh] at hkp; exact hkp)
  rw [← eo] at hos
  have hlife : s'.heap.life = s.heap.life := (runN_life _ _ _ hrun).trans hal.2.2.2
  refine ⟨vs, s₁, hlaid, k, _, s', hsched, ?_, (fun _ i x hx => by rw [hgens] at hx; simp at hx), hkp, by rw [hlife], Shared.rest_eq hos⟩
  rcases hcase with ⟨v, rfl, d1, d2, d3, d4, d5⟩ | ⟨e, ob, cls, rfl, d1, d2, d3, d4, d5⟩
  · exact .inl ⟨v, rfl, d1, d2, d3, fun b o y _ => d4 b o y, d5⟩
  · exact .inr ⟨e, ob, cls, rfl, d1, d2, d3, d4, fun b o y _ => d5 b o y⟩

theorem openN {r : RowW} {run : Value → List Value → Sem Value} {tree : List Value → Sem Fin} {q : Program} {loose defs kps : List Str} {writes : Bool} {Xt : Shared → Bool} {XP : (Str → Option Value) → Heap → Prop} {α : Type} {Yf : Shared → α} {Ya : World → α} {YP : World → Heap → Prop} {N : Nat}
    (left : LeftO r.prog q loose Xt Yf Ya N) (hY : ∀ w s, Yf s = Ya w → YP w s.heap) (hYk : ∀ w h h', YP w h → (∀ b o, h.get? b = some o → h'.get? b = some o) → YP w h') (hX : ∀ s, Xt s = true → XP (s.heap.nsMap mainGlobals) s.heap) (hXk : ∀ mg h h', XP mg h → (∀ b o, h.get? b = some o → h'.get? b = some o) → XP mg h')
    (hRf : ∀ s, Xt s = true → RecFacts r.records s.heap) (hwr : (!writes || r.records.isEmpty) = true) (ok : (chainsOk q && opensWell r.prog && (frees r && r.within.isEmpty)) = true) (hb : r.prog.bare) (hw : r.promised)
    (ht : ∀ vs (w : World) (s : Shared) mg f (Q : Fin → Shared → Prop) (E : Value → Shared → Prop), s.heap.Ns mainGlobals mg → mg r.name = some f → wpN (model r.prog w) callerA (run f vs) (fun v s' => Q (.done (.ret v)) s') E s → wpN (model r.prog w) callerA (tree vs) Q E s)
    (pin : ∀ w s, s.heap.isNs mainGlobals = true → Ground q loose [] XP w s (s.heap.nsMap mainGlobals) (s.heap.nsMap builtinsNs) s.heap → ∀ n ∈ defs, isTheDefsW r.prog s.heap n)
    (call : ∀ (w : World) (s₀ s₁ : Shared) (mg mb : Str → Option Value), Ground q loose r.records XP w s₀ mg mb s₁.heap → YP w s₁.heap → ∀ (args : List WData) (vs : List Value) (as : List Addr),
      r.claim.pre args = true → WData.layableAll args = true → Laid r.records w s₀ s₁ args vs as → sysModules < s₀.heap.objs.size → ∃ f, mg r.name = some f ∧
        wpN (model r.prog w) callerA (run f vs) (fun v s' => GoodWG r.claim (classAt s₀.heap) (ExcName.means s₀.heap) args s₁ (.ok (.ret v)) s')
          (fun e s' => GoodWG r.claim (classAt s₀.heap) (ExcName.means s₀.heap) args s₁ (.error e) s') s₁) : r.claim.HoldsOpenBy (fun vs => ⟨tree vs, .builtin "claim.caller" {}, default, []⟩) defs kps writes := by
  obtain ⟨ok, k5⟩ := Bool.and_eq_true_iff.mp ok
  obtain ⟨hch, o1⟩ := Bool.and_eq_true_iff.mp ok
  obtain ⟨k5, k6⟩ := Bool.and_eq_true_iff.mp k5
  obtain ⟨hsame, hu, ha, hap, hm⟩ := frees_parts k5
  refine ⟨⟨hb, o1, by show r.makers.map _ = []; rw [hm]; rfl⟩, hw.witness, fun w => ⟨(left.behind hX hch w).1, fun s' hs' => ?_⟩⟩
  obtain ⟨s₀, hf, hg0, s, hT, hz, hgens, hg, G00, y⟩ := (left.behind (XP := fun mg h => XP mg h ∧ RecFacts r.records h) (fun s hs => ⟨hX s hs, hRf s hs⟩) hch w).2 s' hs'
  have G0 : Ground q loose [] XP w s (s.heap.nsMap mainGlobals) (s.heap.nsMap builtinsNs) s.heap := ⟨G00.T, G00.B, G00.D, G00.TE, G00.TD, G00.W, G00.X.1, G00.cls, G00.has, G00.apart, G00.once, G00.K⟩
  have RF := G00.X.2
  have hT' := hT
  refine ⟨s₀, hf, hg0, s, hT, pin w s hg G0, RF.1, RF.2.1, ?_⟩
  have hgens : s.gens = #[] := Array.eq_empty_of_size_eq_zero (beq_iff_eq.mp hgens)
  have G : Ground q loose r.records XP w s _ _ s.heap := RF.ground G0
  refine callFromN (c := r.claim) hz hgens fun args hpre hlay ord hord => ?_
  obtain ⟨⟨vs, s₁⟩, hlaid⟩ := Option.isSome_iff_exists.mp (layAllW_isSome (P := w.params) (ord := ord) G.has args r.args s (pre_splitW hpre).1)
  have keeps := layAllW_keeps _ _ _ hlaid
  have hal := layAllW_rest _ _ _ hlaid
  obtain ⟨as, hrd, hin, hold⟩ := reads_layAllW hord _ _ _ hlaid hlay s₁.heap (fun _ _ e => e)
  have L : Laid r.records w s s₁ args vs as := ⟨⟨ord, hord, hlaid⟩, hrd, hin, hold, keeps, hal.1.trans hgens, hal.2.2.1⟩
  have G₁ := G.keeps hXk keeps
  obtain ⟨f, hf, h⟩ := call w s s₁ _ _ G₁ (hYk _ _ _ (hY w s y) keeps) args vs as hpre hlay L G.low
  have hi := ident_freeW hu ha hap
  have hwi : r.claim.within = [] := List.isEmpty_iff.mp k6
  exact ⟨vs, s₁, hlaid, ht vs w s₁ _ f _ _ G₁.T.g hf (wpN_mono h (fun v s' g => ⟨_, rfl, have z := g.laid (c := r.claim) hsame hwi hi L; ⟨z.1, z.2.1, z.2.2, fun q => ⟨namesKept_of hT' hg kps keeps g.2.1.old, noTable hwr q⟩⟩⟩) fun e s' g => have z := g.laid (c := r.claim) hsame hwi hi L; ⟨z.1, z.2.1, z.2.2, fun q => ⟨namesKept_of hT' hg kps keeps g.2.1.old, noTable hwr q⟩⟩)⟩

noncomputable abbrev WalkC (q : Program) (loose : List Str) (XP : (Str → Option Value) → Heap → Prop) (YP : World → Heap → Prop) (r : RowW) (d : DefRec) (kwd : List (Str × PySem.Expr)) (run : Value → List Value → Sem Value) : Prop :=
  ∀ (w : World) (s₀ s₁ : Shared) (mg mb : Str → Option Value), Ground q loose r.records XP w s₀ mg mb s₁.heap → YP w s₁.heap → ∀ (a : Addr) (o : Obj) (pm cd doc dV kV : Value), s₁.heap.get? a = some o →
    o.data = .func { docDef d.name d.params d.body d.scope pm cd doc with defaults := dV, kwdefaults := kV } → s₁.heap.CodeRec cd d.name → Dflts mg s₁.heap d.params kwd dV kV → mg d.name = some (.ref a) → s₁.gens = #[] →
    ∀ (args : List WData) (vals : List Value) (as : List Addr), r.claim.pre args = true → WData.layableAll args = true → ReadsAllW r.records (classAt s₀.heap) s₁.heap vals args as → WellAll w.params s₁.heap vals args → (∀ a ∈ as, (a == sysModules) = false) →
      wpN (model r.prog w) callerA (run (.ref a) vals) (fun v s' => GoodWG r.claim (classAt s₀.heap) (ExcName.means s₀.heap) args s₁ (.ok (.ret v)) s')
        (fun e s' => GoodWG r.claim (classAt s₀.heap) (ExcName.means s₀.heap) args s₁ (.error e) s') s₁

/-- the head for a calm stack: the word that the kit's head looks for -/
theorem holdsOpenN {r : OpenRow} {q : Program} {loose : List Str} {Xt : Shared → Bool} {XP : (Str → Option Value) → Heap → Prop} {α : Type} {Yf : Shared → α} {Ya : World → α} {YP : World → Heap → Prop} {d : DefRec} {kwd : List (Str × PySem.Expr)} {N : Nat}
    (left : LeftO r.prog q loose Xt Yf Ya N) (hY : ∀ w s, Yf s = Ya w → YP w s.heap) (hYk : ∀ w h h', YP w h → (∀ b o, h.get? b = some o → h'.get? b = some o) → YP w h')
    (hX : ∀ s, Xt s = true → XP (s.heap.nsMap mainGlobals) s.heap) (hXk : ∀ mg h h', XP mg h → (∀ b o, h.get? b = some o → h'.get? b = some o) → XP mg h')
    (hdef : defOf q r.name = some (d, kwd)) (hp : r.prog.theDef r.name = some (d.params, d.body, d.scope)) (hk : kwWritten? d.params.kwonlyargs d.params.kw_defaults = some kwd) (hRf : ∀ s, Xt s = true → RecFacts r.records s.heap) (hwr : (!r.writes || r.records.isEmpty) = true)
    (k1 : r.wellSaid = true) (ok : (chainsOk q && opensWell r.prog && (frees r.toRowW && r.within.isEmpty)) = true) (hb : r.prog.bare) (hw : r.toRowW.promised)
    (call : WalkC q loose XP YP r.toRowW d kwd fun f vs => PySem.call f vs) : r.Holds := by
  refine ⟨k1, hw, openN (r := r.toRowW) (run := fun f vs => PySem.call f vs) (tree := fun vs => do match ← nsGet mainNs r.name with
      | some f => do ret (← PySem.call f vs)
      | none => unsupported "claim.caller:no-such-global") left hY hYk hX hXk hRf hwr ok hb hw
    (fun vs w s mg f Q E hg hf h => wpN_bindA (wpAny_nsGet hg (by rw [hf]; exact wpN_bind (wpN_mono h (fun _ _ x => wpN_pure x) fun _ _ x => x))))
    (fun w s hg G n hn => ?_) fun w s₀ s₁ mg mb G Y args vs as hpre hlay L low => ?_⟩
  · obtain rfl : n = r.name := by split at hn <;> simp_all
    exact pinned_of_view hg G hdef hp hk
  · obtain ⟨a, o, pm, cd, doc, dV, kV, h1, h2, h3, h4, h5⟩ := G.fn hdef
    exact ⟨.ref a, h1, call w s₀ s₁ mg mb G Y a o pm cd doc dV kV h2 h3 h4 h5 (defOf_name hdef ▸ h1) L.gens args vs as hpre hlay L.reads L.well (L.low low)⟩
end Nm
end

section
open PySem PySem.W PyProof.Rows
set_option tactic.hygienic false
set_option maxRecDepth 100000
set_option maxHeartbeats 8000000
namespace Nm
noncomputable abbrev so (x : String) : Str := Str.ofString x
noncomputable abbrev vs (x : String) (n : Nat) : Value := .str (so x) n
noncomputable abbrev dk (P : Params) (x : String) (n : Nat) : DictEntry := { hash := PyData.keyHash P (so x), key := vs x n, val := .none }
noncomputable abbrev ot (xs : Array Value) : Obj := { cls := .type "tuple", data := .seq xs }
noncomputable abbrev st (i : Nat) : Option Stmt := PySem.Challenge.pw_nm0015_01.main.body[i]?
noncomputable abbrev cm (i j : Nat) : Option Stmt := match st i with | some (.ClassDef _ _ _ b ..) => b[j]? | _ => none
/-- a def's object -/
noncomputable def fo (s : Option Stmt) (n q : String) (m : Value) (c : Nat) : Obj := match s with
  | some (.FunctionDef _ a b _ _ _ sc ..) => { cls := .type "function", data := .func { name := so n, qualname := so q, params := a, body := .stmts b, scope := sc, globals := 3, closure := [], defaults := .none, kwdefaults := .none, pyModule := m, code := .ref c } }
  | _ => default
/-- a code object -/
noncomputable def oc (n q : String) (k l ac a b : Nat) (c d : Value) (e m : Nat) : Obj :=
  { cls := .type "code", data := .fields #[vs n k, vs q (k + 1), vs "/claim/cut.py" (k + 2), .int l 0, .int ac 0, .int 0 0, .int 0 0, .int 3 0, .ref a, .bool true, .int 181 0, .ref b, .none, c, d, .ref e, .int m 0, .int l 0, vs "/claim/cut.py" (m + 1)] }
noncomputable def KF0 (P : Params) : Frag := [
  (2, { cls := .none, data := .dict #[{ dk P "type.__subclasses__.Exception.0" 258 with val := .int 59 0 }, { dk P "type.__subclasses__.Exception.n" 259 with val := .int 1 0 }] 2 }),
  (3, { cls := .type "dict", data := .dict #[{ dk P "__name__" 165 with val := vs "law_nm0015_01" 487 }, { dk P "__doc__" 166 with val := .none }, { dk P "__package__" 167 with val := .none }, { dk P "__loader__" 168 with val := .builtin "__main__.__loader__#opaque" }, { dk P "__spec__" 169 with val := .none }, { dk P "__annotations__" 170 with val := .ref 6 }, { dk P "__builtins__" 171 with val := .ref 4 }, { dk P "__file__" 173 with val := vs "/claim/cut.py" 172 }, { dk P "__cached__" 174 with val := .none }, { dk P "Sum" 228 with val := .ref 38 }, { dk P "AssemblyFault" 261 with val := .ref 59 }, { dk P "NAME_BEGINS" 265 with val := vs "abcdefghijklmnopqrstuvwxyzABCDEFGHIJKLMNOPQRSTUVWXYZ_.$" 264 }, { dk P "DIGITS" 267 with val := vs "0123456789" 266 }, { dk P "NAME_SIGNS" 269 with val := vs "abcdefghijklmnopqrstuvwxyzABCDEFGHIJKLMNOPQRSTUVWXYZ_.$0123456789" 268 }, { dk P "ESCAPES" 294 with val := .ref 63 }, { dk P "PARTS" 299 with val := .ref 64 }, { dk P "LEVELS" 330 with val := .ref 65 }, { dk P "Piece" 363 with val := .ref 82 }, { dk P "number_end" 372 with val := .ref 93 }, { dk P "number_value" 384 with val := .ref 100 }, { dk P "escaped" 395 with val := .ref 107 }, { dk P "quoted" 407 with val := .ref 114 }, { dk P "pieces_of" 420 with val := .ref 121 }, { dk P "numbered" 429 with val := .ref 128 }, { dk P "worked_out" 443 with val := .ref 135 }, { dk P "cancelled" 450 with val := .ref 142 }, { dk P "reduced" 462 with val := .ref 149 }, { dk P "closed" 471 with val := .ref 156 }, { dk P "expression_of" 486 with val := .ref 163 }, { dk P "_law_ranks" 494 with val := .ref 170 }, { dk P "_law_marks" 505 with val := .ref 171 }, { dk P "_law_ill" 521 with val := .ref 172 }, { dk P "_law_draw" 529 with val := .ref 179 }, { dk P "_law_figures" 538 with val := .ref 186 }, { dk P "_law_leaf" 547 with val := .ref 193 }, { dk P "_law_tree" 557 with val := .ref 200 }, { dk P "_law_rank" 564 with val := .ref 207 }, { dk P "_law_written" 576 with val := .ref 214 }, { dk P "_law_added" 586 with val := .ref 221 }, { dk P "_law_reckoned" 596 with val := .ref 228 }, { dk P "_law_comes_to" 606 with val := .ref 235 }, { dk P "_law_read" 617 with val := .ref 242 }, { dk P "law" 623 with val := .ref 247 }] 43 }),
  (22, ot #[]),
  (24, ot #[vs "self" 204, vs "plus" 205, vs "minus" 206, vs "number" 207]),
  (25, ot #[]),
  (27, oc "__init__" "Sum.__init__" 201 4 4 22 23 (.ref 24) (.ref 25) 26 208),
  (28, fo (cm 1 0) "__init__" "Sum.__init__" (vs "corecc.asmplain" 187) 27),
  (29, ot #[]),
  (31, ot #[vs "self" 214]),
  (32, ot #[]),
  (34, oc "is_number" "Sum.is_number" 211 9 1 29 30 (.ref 31) (.ref 32) 33 215),
  (35, fo (cm 1 1) "is_number" "Sum.is_number" (vs "corecc.asmplain" 187) 34),
  (36, ot #[vs "minus" 218, vs "number" 219, vs "plus" 220]),
  (37, { cls := .type "dict", data := .dict #[{ dk P "__module__" 196 with val := vs "corecc.asmplain" 187 }, { dk P "__firstlineno__" 200 with val := .int 2 199 }, { dk P "__init__" 210 with val := .ref 28 }, { dk P "is_number" 217 with val := .ref 35 }, { dk P "__static_attributes__" 221 with val := .ref 36 }, { dk P "__dict__" 223 with val := .ref 39 }, { dk P "__weakref__" 225 with val := .ref 40 }, { dk P "__doc__" 226 with val := .none }] 4 }),
  (38, { cls := .type "type", data := .cls { name := so "Sum", bases := [.type "object"], mro := [.ref 38, .type "object"], ns := 37, qualname := so "Sum" }, slots := #[none, none, some (vs "Sum" 189), some (vs "Sum" 197), some (.builtin "object.__new__"), some (.bool true)] }),
  (39, { cls := .type "getset_descriptor", data := .fields #[vs "__dict__" 222, .ref 38, .builtin "function.__dict__", .builtin "function.__dict__#set"] }),
  (40, { cls := .type "getset_descriptor", data := .fields #[vs "__weakref__" 224, .ref 38, .builtin "ExceptionGroup.__weakref__", .none] }),
  (43, ot #[.type "Exception"]),
  (50, ot #[]),
  (52, ot #[vs "self" 246, vs "word" 247, vs "line" 248]),
  (53, ot #[]),
  (55, oc "__init__" "AssemblyFault.__init__" 243 14 3 50 51 (.ref 52) (.ref 53) 54 249),
  (56, fo (cm 3 0) "__init__" "AssemblyFault.__init__" (vs "corecc.errors" 229) 55),
  (57, ot #[vs "line" 252, vs "word" 253]),
  (58, { cls := .type "dict", data := .dict #[{ dk P "__module__" 238 with val := vs "corecc.errors" 229 }, { dk P "__firstlineno__" 242 with val := .int 12 241 }, { dk P "__init__" 251 with val := .ref 56 }, { dk P "__static_attributes__" 254 with val := .ref 57 }, { dk P "__weakref__" 256 with val := .ref 60 }, { dk P "__doc__" 257 with val := .none }] 3 }),
  (59, { cls := .type "type", data := .cls { name := so "AssemblyFault", bases := [.type "Exception"], mro := [.ref 59, .type "Exception", .type "BaseException", .type "object"], ns := 58, qualname := so "AssemblyFault" }, slots := #[some (.ref 43), none, some (vs "AssemblyFault" 231), some (vs "AssemblyFault" 239), some (.builtin "Exception.__new__"), some (.bool true)] }),
  (60, { cls := .type "getset_descriptor", data := .fields #[vs "__weakref__" 255, .ref 59, .builtin "ExceptionGroup.__weakref__", .none] }),
  (63, { cls := .type "dict", data := .dict #[{ dk P "n" 270 with val := .int 10 271 }, { dk P "t" 272 with val := .int 9 273 }, { dk P "r" 274 with val := .int 13 275 }, { dk P "b" 276 with val := .int 8 277 }, { dk P "f" 278 with val := .int 12 279 }, { dk P "\\" 280 with val := .int 92 281 }, { dk P "\"" 282 with val := .int 34 283 }, { dk P "'" 284 with val := .int 39 285 }] 8 }),
  (64, ot #[vs "%hi" 295, vs "%lo" 296, vs "%pcrel_hi" 297, vs "%pcrel_lo" 298]),
  (65, { cls := .type "dict", data := .dict #[{ dk P "*" 300 with val := .int 3 301 }, { dk P "/" 302 with val := .int 3 303 }, { dk P "%" 304 with val := .int 3 305 }, { dk P "<<" 306 with val := .int 2 307 }, { dk P ">>" 308 with val := .int 2 309 }, { dk P "&" 310 with val := .int 2 311 }, { dk P "^" 312 with val := .int 2 313 }, { dk P "|" 314 with val := .int 2 315 }, { dk P "+" 316 with val := .int 1 317 }, { dk P "-" 318 with val := .int 1 319 }] 10 }),
  (73, ot #[]),
  (75, ot #[vs "self" 346, vs "kind" 347, vs "text" 348, vs "value" 349]),
  (76, ot #[]),
  (78, oc "__init__" "Piece.__init__" 343 27 4 73 74 (.ref 75) (.ref 76) 77 350),
  (79, fo (cm 11 0) "__init__" "Piece.__init__" (vs "corecc.asmtext" 262) 78),
  (80, ot #[vs "kind" 353, vs "text" 354, vs "value" 355]),
  (81, { cls := .type "dict", data := .dict #[{ dk P "__module__" 338 with val := vs "corecc.asmtext" 262 }, { dk P "__firstlineno__" 342 with val := .int 25 341 }, { dk P "__init__" 352 with val := .ref 79 }, { dk P "__static_attributes__" 356 with val := .ref 80 }, { dk P "__dict__" 358 with val := .ref 83 }, { dk P "__weakref__" 360 with val := .ref 84 }, { dk P "__doc__" 361 with val := .none }] 4 }),
  (82, { cls := .type "type", data := .cls { name := so "Piece", bases := [.type "object"], mro := [.ref 82, .type "object"], ns := 81, qualname := so "Piece" }, slots := #[none, none, some (vs "Piece" 331), some (vs "Piece" 339), some (.builtin "object.__new__"), some (.bool true)] }),
  (83, { cls := .type "getset_descriptor", data := .fields #[vs "__dict__" 357, .ref 82, .builtin "function.__dict__", .builtin "function.__dict__#set"] }),
  (84, { cls := .type "getset_descriptor", data := .fields #[vs "__weakref__" 359, .ref 82, .builtin "ExceptionGroup.__weakref__", .none] }),
  (87, ot #[]),
  (89, ot #[vs "row" 367, vs "at" 368, vs "end" 369]),
  (90, ot #[]),
  (92, oc "number_end" "number_end" 364 31 2 87 88 (.ref 89) (.ref 90) 91 370),
  (93, fo (st 12) "number_end" "number_end" (vs "corecc.asmtext" 262) 92),
  (94, ot #[]),
  (96, ot #[vs "text" 376, vs "base" 377, vs "digits" 378, vs "value" 379, vs "sign" 380, vs "place" 381]),
  (97, ot #[]),
  (99, oc "number_value" "number_value" 373 36 1 94 95 (.ref 96) (.ref 97) 98 382),
  (100, fo (st 13) "number_value" "number_value" (vs "corecc.asmtext" 262) 99),
  (101, ot #[]),
  (103, ot #[vs "row" 388, vs "at" 389, vs "line" 390, vs "sign" 391, vs "end" 392]),
  (104, ot #[]),
  (106, oc "escaped" "escaped" 385 51 3 101 102 (.ref 103) (.ref 104) 105 393),
  (107, fo (st 14) "escaped" "escaped" (vs "corecc.asmtext" 262) 106),
  (108, ot #[]),
  (110, ot #[vs "row" 399, vs "at" 400, vs "line" 401, vs "quote" 402, vs "found" 403, vs "octet" 404]),
  (111, ot #[]),
  (113, oc "quoted" "quoted" 396 68 3 108 109 (.ref 110) (.ref 111) 112 405),
  (114, fo (st 15) "quoted" "quoted" (vs "corecc.asmtext" 262) 113),
  (115, ot #[]),
  (117, ot #[vs "row" 411, vs "line" 412, vs "found" 413, vs "at" 414, vs "sign" 415, vs "end" 416, vs "octets" 417]),
  (118, ot #[]),
  (120, oc "pieces_of" "pieces_of" 408 79 2 115 116 (.ref 117) (.ref 118) 119 418),
  (121, fo (st 16) "pieces_of" "pieces_of" (vs "corecc.asmtext" 262) 120),
  (122, ot #[]),
  (124, ot #[vs "text" 424, vs "line" 425, vs "value" 426]),
  (125, ot #[]),
  (127, oc "numbered" "numbered" 421 107 2 122 123 (.ref 124) (.ref 125) 126 427),
  (128, fo (st 17) "numbered" "numbered" (vs "corecc.asmtext" 262) 127),
  (129, ot #[]),
  (131, ot #[vs "op" 433, vs "one" 434, vs "other" 435, vs "line" 436, vs "left" 437, vs "right" 438, vs "whole" 439, vs "rest" 440]),
  (132, ot #[]),
  (134, oc "worked_out" "worked_out" 430 114 4 129 130 (.ref 131) (.ref 132) 133 441),
  (135, fo (st 18) "worked_out" "worked_out" (vs "corecc.asmtext" 262) 134),
  (136, ot #[]),
  (138, ot #[vs "found" 447]),
  (139, ot #[]),
  (141, oc "cancelled" "cancelled" 444 141 1 136 137 (.ref 138) (.ref 139) 140 448),
  (142, fo (st 19) "cancelled" "cancelled" (vs "corecc.asmtext" 262) 141),
  (143, ot #[]),
  (145, ot #[vs "sums" 454, vs "signs" 455, vs "level" 456, vs "line" 457, vs "op" 458, vs "other" 459]),
  (146, ot #[]),
  (148, oc "reduced" "reduced" 451 143 4 143 144 (.ref 145) (.ref 146) 147 460),
  (149, fo (st 20) "reduced" "reduced" (vs "corecc.asmtext" 262) 148),
  (150, ot #[]),
  (152, ot #[vs "sums" 466, vs "signs" 467, vs "line" 468]),
  (153, ot #[]),
  (155, oc "closed" "closed" 463 155 3 150 151 (.ref 152) (.ref 153) 154 469),
  (156, fo (st 21) "closed" "closed" (vs "corecc.asmtext" 262) 155),
  (157, ot #[]),
  (159, ot #[vs "pieces" 475, vs "told" 476, vs "line" 477, vs "sums" 478, vs "signs" 479, vs "wants" 480, vs "piece" 481, vs "value" 482, vs "text" 483]),
  (160, ot #[]),
  (162, oc "expression_of" "expression_of" 472 160 3 157 158 (.ref 159) (.ref 160) 161 484),
  (163, fo (st 22) "expression_of" "expression_of" (vs "corecc.asmtext" 262) 162),
  (164, ot #[]),
  (166, ot #[]),
  (167, ot #[]),
  (169, oc "_law_ranks" "_law_ranks" 489 186 0 164 165 (.ref 166) (.ref 167) 168 492),
  (170, fo (st 24) "_law_ranks" "_law_ranks" (vs "law_nm0015_01" 487) 169),
  (171, ot #[vs "*" 495, vs "/" 496, vs "%" 497, vs "<<" 498, vs ">>" 499, vs "&" 500, vs "^" 501, vs "|" 502, vs "+" 503, vs "-" 504]),
  (172, ot #[vs "" 506, vs "+" 507, vs "1 +" 508, vs "(1" 509, vs "1)" 510, vs "* 2" 511, vs "1 2" 512, vs "()" 513, vs "(1 + )" 514, vs "1 ~ 2" 515, vs "a b" 516, vs "1 (2)" 517, vs "((3)" 518, vs "-" 519, vs "1 + * 2" 520]),
  (173, ot #[]),
  (175, ot #[vs "well" 525, vs "size" 526]),
  (176, ot #[]),
  (178, oc "_law_draw" "_law_draw" 522 190 2 173 174 (.ref 175) (.ref 176) 177 527),
  (179, fo (st 27) "_law_draw" "_law_draw" (vs "law_nm0015_01" 487) 178),
  (180, ot #[]),
  (182, ot #[vs "value" 533, vs "base" 534, vs "found" 535]),
  (183, ot #[]),
  (185, oc "_law_figures" "_law_figures" 530 197 2 180 181 (.ref 182) (.ref 183) 184 536),
  (186, fo (st 28) "_law_figures" "_law_figures" (vs "law_nm0015_01" 487) 185),
  (187, ot #[]),
  (189, ot #[vs "well" 542, vs "form" 543, vs "value" 544]),
  (190, ot #[]),
  (192, oc "_law_leaf" "_law_leaf" 539 203 1 187 188 (.ref 189) (.ref 190) 191 545),
  (193, fo (st 29) "_law_leaf" "_law_leaf" (vs "law_nm0015_01" 487) 192),
  (194, ot #[]),
  (196, ot #[vs "well" 551, vs "many" 552, vs "mark" 553, vs "left" 554]),
  (197, ot #[]),
  (199, oc "_law_tree" "_law_tree" 548 217 2 194 195 (.ref 196) (.ref 197) 198 555),
  (200, fo (st 30) "_law_tree" "_law_tree" (vs "law_nm0015_01" 487) 199),
  (201, ot #[]),
  (203, ot #[vs "tree" 561]),
  (204, ot #[]),
  (206, oc "_law_rank" "_law_rank" 558 225 1 201 202 (.ref 203) (.ref 204) 205 562),
  (207, fo (st 31) "_law_rank" "_law_rank" (vs "law_nm0015_01" 487) 206),
  (208, ot #[]),
  (210, ot #[vs "well" 568, vs "tree" 569, vs "least" 570, vs "blank" 571, vs "found" 572, vs "own" 573]),
  (211, ot #[]),
  (213, oc "_law_written" "_law_written" 565 229 3 208 209 (.ref 210) (.ref 211) 212 574),
  (214, fo (st 32) "_law_written" "_law_written" (vs "law_nm0015_01" 487) 213),
  (215, ot #[]),
  (217, ot #[vs "one" 580, vs "other" 581, vs "plus" 582, vs "minus" 583]),
  (218, ot #[]),
  (220, oc "_law_added" "_law_added" 577 243 2 215 216 (.ref 217) (.ref 218) 219 584),
  (221, fo (st 33) "_law_added" "_law_added" (vs "law_nm0015_01" 487) 220),
  (222, ot #[]),
  (224, ot #[vs "mark" 590, vs "left" 591, vs "right" 592, vs "whole" 593]),
  (225, ot #[]),
  (227, oc "_law_reckoned" "_law_reckoned" 587 250 3 222 223 (.ref 224) (.ref 225) 226 594),
  (228, fo (st 34) "_law_reckoned" "_law_reckoned" (vs "law_nm0015_01" 487) 227),
  (229, ot #[]),
  (231, ot #[vs "tree" 600, vs "one" 601, vs "other" 602, vs "number" 603]),
  (232, ot #[]),
  (234, oc "_law_comes_to" "_law_comes_to" 597 264 1 229 230 (.ref 231) (.ref 232) 233 604),
  (235, fo (st 35) "_law_comes_to" "_law_comes_to" (vs "law_nm0015_01" 487) 234),
  (236, ot #[]),
  (238, ot #[vs "text" 610, vs "pieces" 611, vs "sums" 612, vs "piece" 613, vs "got" 614]),
  (239, ot #[]),
  (241, oc "_law_read" "_law_read" 607 289 1 236 237 (.ref 238) (.ref 239) 240 615),
  (242, fo (st 36) "_law_read" "_law_read" (vs "law_nm0015_01" 487) 241),
  (243, ot #[]),
  (246, oc "law" "law" 618 302 1 243 244 (.none) (.none) 245 621),
  (247, fo (st 37) "law" "law" (vs "law_nm0015_01" 487) 246)
  ]
noncomputable def kAs : List Nat := [2, 3, 22, 24, 25, 27, 28, 29, 31, 32, 34, 35, 36, 37, 38, 39, 40, 43, 50, 52, 53, 55, 56, 57, 58, 59, 60, 63, 64, 65, 73, 75, 76, 78, 79, 80, 81, 82, 83, 84, 87, 89, 90, 92, 93, 94, 96, 97, 99, 100, 101, 103, 104, 106, 107, 108, 110, 111, 113, 114, 115, 117, 118, 120, 121, 122, 124, 125, 127, 128, 129, 131, 132, 134, 135, 136, 138, 139, 141, 142, 143, 145, 146, 148, 149, 150, 152, 153, 155, 156, 157, 159, 160, 162, 163, 164, 166, 167, 169, 170, 171, 172, 173, 175, 176, 178, 179, 180, 182, 183, 185, 186, 187, 189, 190, 192, 193, 194, 196, 197, 199, 200, 201, 203, 204, 206, 207, 208, 210, 211, 213, 214, 215, 217, 218, 220, 221, 222, 224, 225, 227, 228, 229, 231, 232, 234, 235, 236, 238, 239, 241, 242, 243, 246, 247]
end Nm
end

section
open PySem PySem.W PySem.Calls PyProof.Rows
set_option tactic.hygienic false
set_option maxRecDepth 100000
set_option maxHeartbeats 8000000
namespace Nm
/-- the law's def alone -/
noncomputable def qv : Program := view PySem.Challenge.pw_nm0015_01 [37]
noncomputable def lv : List Str := [so "Sum", so "AssemblyFault", so "NAME_BEGINS", so "DIGITS", so "NAME_SIGNS", so "ESCAPES", so "PARTS", so "LEVELS", so "Piece", so "number_end", so "number_value", so "escaped", so "quoted", so "pieces_of", so "numbered", so "worked_out", so "cancelled", so "reduced", so "closed", so "expression_of",
  so "_law_ranks", so "_law_marks", so "_law_ill", so "_law_draw", so "_law_figures", so "_law_leaf", so "_law_tree", so "_law_rank", so "_law_written", so "_law_added", so "_law_reckoned", so "_law_comes_to", so "_law_read"]
theorem kAs_eq (P : Params) : kAs = (KF0 P).map (·.1) := by kernel_rfl
noncomputable def kh : Hook := kHook KF0 kAs kAs_eq
/-- the run of the top and the looks at its end, in one -/
noncomputable def runP {α : Type} (p q : Program) (loose : List Str) (Xt : Shared → Bool) (Yf : Shared → α) (Ya : World → α) (m₀ : Nat) (ann : Option Value) (M : Nat) (w : World) : Prop :=
  (fun os => (topRun treeTable p w m₀ ann M ⟨boot_heap w.params, Array.mk [], boot_drawn, boot_toks, os⟩ (topStub p)).map fun s =>
    ((staticsOk (importedModules p.main.body) (boot_heap w.params) s.heap && namesBound p s.heap && gensDone s && laidKept (boot_heap w.params) s.heap), openSeen q loose (importedModules p.main.body) Xt true s, Yf s)) =
   fun _ => some (true, openGood q loose, Ya w)
theorem leftOf {p q : Program} {loose : List Str} {Xt : Shared → Bool} {α : Type} {Yf : Shared → α} {Ya : World → α} {m₀ : Nat} {ann : Option Value} {N : Nat} (e : opening p = plainProg p.main.scope.names) (hN : Nat.ble 600 N = true) (f : ∀ s, fenceModules? p s = some s)
    (size : ∀ w : World, ((boot_heap w.params).isNs mainGlobals && (Array.mk ([] : List GenState)).size == 0, (boot_heap w.params).objs.size, (boot_heap w.params).nsMap mainGlobals "__annotations__") = (true, m₀, ann))
    (h : ∀ w, runP p q loose Xt Yf Ya m₀ ann N w) : LeftO p q loose Xt Yf Ya N true := fun w => by
  obtain ⟨⟨h₀, gs, d, k, os⟩, e1, e'⟩ := Option.map_eq_some_iff.mp (boot_open e hN f w)
  obtain ⟨rfl, rfl, rfl, rfl⟩ : h₀ = boot_heap w.params ∧ gs = Array.mk [] ∧ d = boot_drawn ∧ k = boot_toks := by simpa using e'
  obtain ⟨z1, z2, z3⟩ : _ ∧ _ ∧ _ := by simpa only [Prod.mk.injEq] using size w
  obtain ⟨s, r, l⟩ := Option.map_eq_some_iff.mp (congrFun (h w) os)
  simp only [Prod.mk.injEq] at l
  obtain ⟨l1, l2, l3⟩ := l
  have t : topFrom treeTable p w N ⟨boot_heap w.params, Array.mk [], boot_drawn, boot_toks, os⟩ = some s := by
    unfold topFrom
    dsimp only
    rw [z1, z2, z3, r]
    show (match staticsOk (importedModules p.main.body) (boot_heap w.params) s.heap && namesBound p s.heap && gensDone s && laidKept (boot_heap w.params) s.heap with | true => _ | false => _) = _
    rw [l1]
  unfold openEnds
  rw [e1]
  show (topFrom treeTable p w N _).map _ = _
  rw [t]
  exact congrArg some (Prod.ext l2 l3)
theorem runF (w : World) : runP PySem.Challenge.pw_nm0015_01 qv lv (fun _ => true) kh.obs kh.val 11 (some (.ref 6)) 3864 (w.withFollow "special-get-raises" false) := by
  unfold runP
  rw [PySem.W.Fast.te14082659384304107361, PySem.W.Fast.te4187177175401517315, PySem.W.Fast.te14364793385576792824]
  kernel_rfl
theorem runT (w : World) : runP PySem.Challenge.pw_nm0015_01 qv lv (fun _ => true) kh.obs kh.val 11 (some (.ref 6)) 3864 (w.withFollow "special-get-raises" true) := by
  unfold runP
  rw [PySem.W.Fast.te14082659384304107361, PySem.W.Fast.te4187177175401517315, PySem.W.Fast.te14364793385576792824]
  kernel_rfl
end Nm
end

section
open PySem PySem.W PySem.Calls PyProof.Rows
set_option tactic.hygienic false
set_option maxRecDepth 100000
set_option maxHeartbeats 8000000
namespace Nm
theorem hl1 : opening PySem.Challenge.pw_nm0015_01 = plainProg PySem.Challenge.pw_nm0015_01.main.scope.names := by kernel_rfl
theorem hl2 (s : Shared) : fenceModules? PySem.Challenge.pw_nm0015_01 s = some s := by kernel_rfl
theorem hl3 (w : World) : ((boot_heap w.params).isNs mainGlobals && (Array.mk ([] : List GenState)).size == 0, (boot_heap w.params).objs.size, (boot_heap w.params).nsMap mainGlobals "__annotations__") = (true, 11, some (.ref 6)) := by kernel_rfl
theorem hl4 : ∀ w, runP PySem.Challenge.pw_nm0015_01 qv lv (fun _ => true) kh.obs kh.val 11 (some (.ref 6)) 3864 w := byRow2 "special-get-raises" runF runT
theorem leftAll : LeftO PySem.Challenge.pw_nm0015_01 qv lv (fun _ => true) kh.obs kh.val 3864 true := leftOf hl1 (by decide +kernel) hl2 hl3 hl4
noncomputable def dLaw : DefRec := match st 37 with | some (.FunctionDef n a b _ _ _ sc _ _ pos) => { name := n, params := a, body := b, scope := sc, pos } | _ => { name := "", params := default, body := [], scope := default, pos := default }
noncomputable abbrev rO := PySem.Challenge.rw_nm0015_01.row
theorem hd1 : defOf qv rO.name = some (dLaw, []) := by kernel_rfl
theorem hd2 : rO.prog.theDef rO.name = some (dLaw.params, dLaw.body, dLaw.scope) := by kernel_rfl
theorem hd3 : kwWritten? dLaw.params.kwonlyargs dLaw.params.kw_defaults = some [] := by kernel_rfl
theorem hd4 : (!rO.writes || rO.records.isEmpty) = true := by decide +kernel
theorem hd5 : (chainsOk qv && opensWell rO.prog && (frees rO.toRowW && rO.within.isEmpty)) = true := by decide +kernel
theorem hd6 : rO.prog.bare := ⟨rfl, rfl, rfl, rfl, rfl, by decide +kernel⟩
theorem hd7 : rO.toRowW.promised := ⟨[WData.list []], by decide +kernel, by decide +kernel⟩
noncomputable abbrev rP := PySem.Challenge.rw_nm0015_01.row.prog
theorem said1 : noRoadLSs { strict := !(importedModules rP.main.body).all cThrough.contains, foot := none, bare := (["vars", "dir", "locals"] : List Str).filter (readsOut rP rP.main.body) } rP.main.body = true := by
  rw [PySem.W.Fast.te8326940854005059898, PySem.W.Fast.te13343964577679436407]; kernel_rfl
theorem said2 : namesResolve rP = true := by
  rw [PySem.W.Fast.te8377067652309620493]; kernel_rfl
theorem said3 : looksOpen rP = true := by
  unfold looksOpen
  rw [said1, said2]
  kernel_rfl
theorem said4 : PySem.Challenge.rw_nm0015_01.row.partSaid = true := by
  unfold OpenRow.partSaid
  rw [said3]
  kernel_rfl
theorem said5 : PySem.Challenge.rw_nm0015_01.row.wellSaid = true := by
  unfold OpenRow.wellSaid
  rw [said4]
  kernel_rfl
theorem hd8 : PySem.Challenge.rw_nm0015_01.wellSaid = true := by
  unfold OpenLaw.wellSaid
  rw [said5, PySem.W.Fast.te17119622794617984870, PySem.W.Fast.te8326940854005059898]
  kernel_rfl
theorem hd9 : LeftO rO.prog qv lv (fun _ => true) kh.obs kh.val 3864 := leftAll
theorem holdsOf (call : WalkC qv lv (fun _ _ => True) kh.says rO.toRowW dLaw [] fun f vs => PySem.call f vs) : PySem.Challenge.rw_nm0015_01.Holds :=
  holds_law hd8 fun said => holdsOpenN (r := rO) (q := qv) (loose := lv) (Xt := fun _ => true) (XP := fun _ _ => True) (Yf := kh.obs) (Ya := kh.val) (YP := kh.says) (N := 3864)
    hd9 kh.of kh.keeps (fun _ _ => trivial) (fun _ _ _ _ _ => trivial) hd1 hd2 hd3 (fun s _ => recFacts_of (by kernel_rfl)) hd4 said hd5 hd6 hd7 call
end Nm
end

section
open PySem PySem.W PySem.Calls PyProof.Rows
set_option tactic.hygienic false
set_option maxRecDepth 100000
set_option maxHeartbeats 4000000
namespace Nm
section
variable {fd : FuncData}
theorem bind0 (h : bindArgs fd ⟨[], []⟩ = pure []) (vs : List Value) (hl : vs.length = 0) : bindArgs fd ⟨vs, []⟩ = pure (([] : List Str).zip vs) := by
  cases vs with
  | nil => exact h
  | cons _ _ => cases hl
theorem bind1 (x : Str) (h : ∀ a, bindArgs fd ⟨[a], []⟩ = pure [(x, a)]) (vs : List Value) (hl : vs.length = 1) : bindArgs fd ⟨vs, []⟩ = pure ([x].zip vs) := by
  cases vs with
  | nil => cases hl
  | cons a vs =>
    have hl := Nat.succ.inj hl
    cases vs with
    | nil => exact h a
    | cons _ _ => cases hl
theorem bind2 (x y : Str) (h : ∀ a b, bindArgs fd ⟨[a, b], []⟩ = pure [(x, a), (y, b)]) (vs : List Value) (hl : vs.length = 2) : bindArgs fd ⟨vs, []⟩ = pure ([x, y].zip vs) := by
  cases vs with
  | nil => cases hl
  | cons a vs =>
    have hl := Nat.succ.inj hl
    cases vs with
    | nil => cases hl
    | cons b vs =>
      have hl := Nat.succ.inj hl
      cases vs with
      | nil => exact h a b
      | cons _ _ => cases hl
theorem bind3 (x y z : Str) (h : ∀ a b c, bindArgs fd ⟨[a, b, c], []⟩ = pure [(x, a), (y, b), (z, c)]) (vs : List Value) (hl : vs.length = 3) : bindArgs fd ⟨vs, []⟩ = pure ([x, y, z].zip vs) := by
  cases vs with
  | nil => cases hl
  | cons a vs =>
    have hl := Nat.succ.inj hl
    cases vs with
    | nil => cases hl
    | cons b vs =>
      have hl := Nat.succ.inj hl
      cases vs with
      | nil => cases hl
      | cons c vs =>
        have hl := Nat.succ.inj hl
        cases vs with
        | nil => exact h a b c
        | cons _ _ => cases hl
theorem bind4 (x y z u : Str) (h : ∀ a b c d, bindArgs fd ⟨[a, b, c, d], []⟩ = pure [(x, a), (y, b), (z, c), (u, d)]) (vs : List Value) (hl : vs.length = 4) : bindArgs fd ⟨vs, []⟩ = pure ([x, y, z, u].zip vs) := by
  cases vs with
  | nil => cases hl
  | cons a vs =>
    have hl := Nat.succ.inj hl
    cases vs with
    | nil => cases hl
    | cons b vs =>
      have hl := Nat.succ.inj hl
      cases vs with
      | nil => cases hl
      | cons c vs =>
        have hl := Nat.succ.inj hl
        cases vs with
        | nil => cases hl
        | cons d vs =>
          have hl := Nat.succ.inj hl
          cases vs with
          | nil => exact h a b c d
          | cons _ _ => cases hl
end
theorem fn0 (p) : FunOK (KF0 p) { nm := "is_number", np := 1, vars := ["self"], body := body_is_number } 0 := 
  ⟨by kernel_rfl, by kernel_rfl, by kernel_rfl, by kernel_rfl, ⟨by kernel_rfl, by kernel_rfl, by kernel_rfl⟩, bind1 _ fun a => by kernel_rfl⟩
theorem fn1 (p) : FunOK (KF0 p) { nm := "number_end", np := 2, vars := ["row", "at", "end"], body := body_number_end } 1 := 
  ⟨by kernel_rfl, by kernel_rfl, by kernel_rfl, by kernel_rfl, ⟨by kernel_rfl, by kernel_rfl, by kernel_rfl⟩, bind2 _ _ fun a b => by kernel_rfl⟩
theorem fn2 (p) : FunOK (KF0 p) { nm := "number_value", np := 1, vars := ["text", "base", "digits", "value", "sign", "place"], body := body_number_value } 2 := 
  ⟨by kernel_rfl, by kernel_rfl, by kernel_rfl, by kernel_rfl, ⟨by kernel_rfl, by kernel_rfl, by kernel_rfl⟩, bind1 _ fun a => by kernel_rfl⟩
theorem fn3 (p) : FunOK (KF0 p) { nm := "quoted", np := 3, vars := ["row", "at", "line", "quote", "found", "octet"], body := body_quoted } 3 := 
  ⟨by kernel_rfl, by kernel_rfl, by kernel_rfl, by kernel_rfl, ⟨by kernel_rfl, by kernel_rfl, by kernel_rfl⟩, bind3 _ _ _ fun a b c => by kernel_rfl⟩
theorem fn4 (p) : FunOK (KF0 p) { nm := "pieces_of", np := 2, vars := ["row", "line", "found", "at", "sign", "end", "octets"], body := body_pieces_of } 4 := 
  ⟨by kernel_rfl, by kernel_rfl, by kernel_rfl, by kernel_rfl, ⟨by kernel_rfl, by kernel_rfl, by kernel_rfl⟩, bind2 _ _ fun a b => by kernel_rfl⟩
theorem fn5 (p) : FunOK (KF0 p) { nm := "numbered", np := 2, vars := ["text", "line", "value"], body := body_numbered } 5 := 
  ⟨by kernel_rfl, by kernel_rfl, by kernel_rfl, by kernel_rfl, ⟨by kernel_rfl, by kernel_rfl, by kernel_rfl⟩, bind2 _ _ fun a b => by kernel_rfl⟩
theorem fn6 (p) : FunOK (KF0 p) { nm := "worked_out", np := 4, vars := ["op", "one", "other", "line", "left", "right", "whole", "rest"], body := body_worked_out } 6 := 
  ⟨by kernel_rfl, by kernel_rfl, by kernel_rfl, by kernel_rfl, ⟨by kernel_rfl, by kernel_rfl, by kernel_rfl⟩, bind4 _ _ _ _ fun a b c d => by kernel_rfl⟩
theorem fn7 (p) : FunOK (KF0 p) { nm := "cancelled", np := 1, vars := ["found"], body := body_cancelled } 7 := 
  ⟨by kernel_rfl, by kernel_rfl, by kernel_rfl, by kernel_rfl, ⟨by kernel_rfl, by kernel_rfl, by kernel_rfl⟩, bind1 _ fun a => by kernel_rfl⟩
theorem fn8 (p) : FunOK (KF0 p) { nm := "reduced", np := 4, vars := ["sums", "signs", "level", "line", "op", "other"], body := body_reduced } 8 := 
  ⟨by kernel_rfl, by kernel_rfl, by kernel_rfl, by kernel_rfl, ⟨by kernel_rfl, by kernel_rfl, by kernel_rfl⟩, bind4 _ _ _ _ fun a b c d => by kernel_rfl⟩
theorem fn9 (p) : FunOK (KF0 p) { nm := "closed", np := 3, vars := ["sums", "signs", "line"], body := body_closed } 9 := 
  ⟨by kernel_rfl, by kernel_rfl, by kernel_rfl, by kernel_rfl, ⟨by kernel_rfl, by kernel_rfl, by kernel_rfl⟩, bind3 _ _ _ fun a b c => by kernel_rfl⟩
theorem fn10 (p) : FunOK (KF0 p) { nm := "expression_of", np := 3, vars := ["pieces", "told", "line", "sums", "signs", "wants", "piece", "value", "text"], body := body_expression_of } 10 := 
  ⟨by kernel_rfl, by kernel_rfl, by kernel_rfl, by kernel_rfl, ⟨by kernel_rfl, by kernel_rfl, by kernel_rfl⟩, bind3 _ _ _ fun a b c => by kernel_rfl⟩
theorem fn11 (p) : FunOK (KF0 p) { nm := "_law_ranks", np := 0, vars := [], body := body_law_ranks } 11 := 
  ⟨by kernel_rfl, by kernel_rfl, by kernel_rfl, by kernel_rfl, ⟨by kernel_rfl, by kernel_rfl, by kernel_rfl⟩, bind0 (by kernel_rfl)⟩
theorem fn12 (p) : FunOK (KF0 p) { nm := "_law_draw", np := 2, vars := ["well", "size"], body := body_law_draw } 12 := 
  ⟨by kernel_rfl, by kernel_rfl, by kernel_rfl, by kernel_rfl, ⟨by kernel_rfl, by kernel_rfl, by kernel_rfl⟩, bind2 _ _ fun a b => by kernel_rfl⟩
theorem fn13 (p) : FunOK (KF0 p) { nm := "_law_figures", np := 2, vars := ["value", "base", "found"], body := body_law_figures } 13 := 
  ⟨by kernel_rfl, by kernel_rfl, by kernel_rfl, by kernel_rfl, ⟨by kernel_rfl, by kernel_rfl, by kernel_rfl⟩, bind2 _ _ fun a b => by kernel_rfl⟩
theorem fn14 (p) : FunOK (KF0 p) { nm := "_law_leaf", np := 1, vars := ["well", "form", "value"], body := body_law_leaf } 14 := 
  ⟨by kernel_rfl, by kernel_rfl, by kernel_rfl, by kernel_rfl, ⟨by kernel_rfl, by kernel_rfl, by kernel_rfl⟩, bind1 _ fun a => by kernel_rfl⟩
theorem fn15 (p) : FunOK (KF0 p) { nm := "_law_tree", np := 2, vars := ["well", "many", "mark", "left"], body := body_law_tree } 15 := 
  ⟨by kernel_rfl, by kernel_rfl, by kernel_rfl, by kernel_rfl, ⟨by kernel_rfl, by kernel_rfl, by kernel_rfl⟩, bind2 _ _ fun a b => by kernel_rfl⟩
theorem fn16 (p) : FunOK (KF0 p) { nm := "_law_rank", np := 1, vars := ["tree"], body := body_law_rank } 16 := 
  ⟨by kernel_rfl, by kernel_rfl, by kernel_rfl, by kernel_rfl, ⟨by kernel_rfl, by kernel_rfl, by kernel_rfl⟩, bind1 _ fun a => by kernel_rfl⟩
theorem fn17 (p) : FunOK (KF0 p) { nm := "_law_written", np := 3, vars := ["well", "tree", "least", "blank", "found", "own"], body := body_law_written } 17 := 
  ⟨by kernel_rfl, by kernel_rfl, by kernel_rfl, by kernel_rfl, ⟨by kernel_rfl, by kernel_rfl, by kernel_rfl⟩, bind3 _ _ _ fun a b c => by kernel_rfl⟩
theorem fn18 (p) : FunOK (KF0 p) { nm := "_law_added", np := 2, vars := ["one", "other", "plus", "minus"], body := body_law_added } 18 := 
  ⟨by kernel_rfl, by kernel_rfl, by kernel_rfl, by kernel_rfl, ⟨by kernel_rfl, by kernel_rfl, by kernel_rfl⟩, bind2 _ _ fun a b => by kernel_rfl⟩
theorem fn19 (p) : FunOK (KF0 p) { nm := "_law_reckoned", np := 3, vars := ["mark", "left", "right", "whole"], body := body_law_reckoned } 19 := 
  ⟨by kernel_rfl, by kernel_rfl, by kernel_rfl, by kernel_rfl, ⟨by kernel_rfl, by kernel_rfl, by kernel_rfl⟩, bind3 _ _ _ fun a b c => by kernel_rfl⟩
theorem fn20 (p) : FunOK (KF0 p) { nm := "_law_comes_to", np := 1, vars := ["tree", "one", "other", "number"], body := body_law_comes_to } 20 := 
  ⟨by kernel_rfl, by kernel_rfl, by kernel_rfl, by kernel_rfl, ⟨by kernel_rfl, by kernel_rfl, by kernel_rfl⟩, bind1 _ fun a => by kernel_rfl⟩
theorem fn21 (p) : FunOK (KF0 p) { nm := "_law_read", np := 1, vars := ["text", "pieces", "sums", "piece", "got"], body := body_law_read } 21 := 
  ⟨by kernel_rfl, by kernel_rfl, by kernel_rfl, by kernel_rfl, ⟨by kernel_rfl, by kernel_rfl, by kernel_rfl⟩, bind1 _ fun a => by kernel_rfl⟩
theorem fn22 (p) : FunOK (KF0 p) { nm := "law", np := 1, vars := ["script", "well", "turn", "tree"], body := body_law } 22 := 
  ⟨by kernel_rfl, by kernel_rfl, by kernel_rfl, by kernel_rfl, ⟨by kernel_rfl, by kernel_rfl, by kernel_rfl⟩, bind1 _ fun a => by kernel_rfl⟩
noncomputable def AllFn (K : Frag) : Nat → List AFun → Prop
  | _, [] => True
  | i, fn :: r => FunOK K fn i ∧ AllFn K (i + 1) r
theorem AllFn.get {K : Frag} {l : List AFun} : ∀ {i : Nat}, AllFn K i l → ∀ k fn, l[k]? = some fn → FunOK K fn (i + k) := by
  induction l with
  | nil => intro i _ k fn h; cases h
  | cons f l ih =>
    intro i h k fn e
    cases k with
    | zero => cases e; exact h.1
    | succ k => have := ih h.2 k fn e; rw [show i + (k + 1) = i + 1 + k by omega]; exact this
theorem fnAll (p) : ∀ f fn, theProg f = some fn → FunOK (KF0 p) fn f := fun f fn h => by
  have := AllFn.get (K := KF0 p) (i := 0) (l := progL) ⟨fn0 p, fn1 p, fn2 p, fn3 p, fn4 p, fn5 p, fn6 p, fn7 p, fn8 p, fn9 p, fn10 p, fn11 p, fn12 p, fn13 p, fn14 p, fn15 p, fn16 p, fn17 p, fn18 p, fn19 p, fn20 p, fn21 p, fn22 p, trivial⟩ f fn h
  rw [Nat.zero_add] at this
  exact this
end Nm
end

section
open PySem PySem.W PySem.Calls PyProof.Rows
set_option tactic.hygienic false
set_option maxRecDepth 100000
set_option maxHeartbeats 4000000
namespace Nm
theorem mkSum (p) : MkOK (KF0 p) 38 28 "plus" "minus" "number" :=
  ⟨⟨by kernel_rfl, ⟨by kernel_rfl, by kernel_rfl, by kernel_rfl⟩, by kernel_rfl, by kernel_rfl, by kernel_rfl⟩, by kernel_rfl, fun a b c d => by kernel_rfl, by kernel_rfl, by kernel_rfl, by kernel_rfl, by kernel_rfl, by kernel_rfl, by kernel_rfl, by kernel_rfl, by kernel_rfl, by kernel_rfl, by kernel_rfl, by kernel_rfl, by kernel_rfl, by kernel_rfl, by kernel_rfl⟩
theorem mkPiece (p) : MkOK (KF0 p) 82 79 "kind" "text" "value" :=
  ⟨⟨by kernel_rfl, ⟨by kernel_rfl, by kernel_rfl, by kernel_rfl⟩, by kernel_rfl, by kernel_rfl, by kernel_rfl⟩, by kernel_rfl, fun a b c d => by kernel_rfl, by kernel_rfl, by kernel_rfl, by kernel_rfl, by kernel_rfl, by kernel_rfl, by kernel_rfl, by kernel_rfl, by kernel_rfl, by kernel_rfl, by kernel_rfl, by kernel_rfl, by kernel_rfl, by kernel_rfl, by kernel_rfl⟩
theorem kcSum (p) : KC (KF0 p) 38 sumNames where
  plain := fun n => by kernel_rfl
  hasD := by kernel_rfl
  miss := fun n h => by
    simp only [sumNames, List.mem_cons, List.not_mem_nil, or_false] at h
    rcases h with rfl | rfl | rfl <;> kernel_rfl
theorem kcPiece (p) : KC (KF0 p) 82 pieceNames where
  plain := fun n => by kernel_rfl
  hasD := by kernel_rfl
  miss := fun n h => by
    simp only [pieceNames, List.mem_cons, List.not_mem_nil, or_false] at h
    rcases h with rfl | rfl | rfl <;> kernel_rfl
theorem ffAll (p) : FaultFn (KF0 p) :=
  ⟨⟨by kernel_rfl, ⟨by kernel_rfl, by kernel_rfl, by kernel_rfl⟩, by kernel_rfl, by kernel_rfl, by kernel_rfl⟩, by kernel_rfl, by kernel_rfl, fun a b c => by kernel_rfl, by kernel_rfl, by kernel_rfl, by kernel_rfl, by kernel_rfl, by kernel_rfl,
    ⟨⟨_, rfl, by kernel_rfl, by kernel_rfl⟩, by kernel_rfl, by kernel_rfl, by kernel_rfl⟩, by kernel_rfl, by kernel_rfl⟩
noncomputable def fnB (K : Frag) : Bool := (List.range 24).all fun i => i == 0 || (decide (nsIn K mainGlobals (fnmL.getD i "") = some (some (.ref (faddr i)))) && keepIn K (.ref (faddr i)))
theorem fnB_ok (p) : fnB (KF0 p) = true := by kernel_rfl
theorem fn_of {K : Frag} (hb : fnB K = true) (i : Nat) (x : Str) (h : fnOk i x = true) : nsIn K mainGlobals x = some (some (.ref (faddr i))) ∧ keepIn K (.ref (faddr i)) = true := by
  obtain ⟨h1, h2⟩ := and2 h
  have h1 := beq_iff_eq.mp h1
  have hi : i < 24 := (List.getElem?_eq_some_iff.mp h1).1
  have := List.all_eq_true.mp hb i (List.mem_range.mpr hi)
  rw [not1 h2, Bool.false_or] at this
  obtain ⟨a, b⟩ := and2 this
  have hx : fnmL.getD i "" = x := by rw [List.getD_eq_getElem?_getD, h1]; rfl
  rw [hx] at a
  exact ⟨of_decide_eq_true a, b⟩
theorem kfAll (p) : KF (KF0 p) where
  mkS := mkSum p
  mkP := mkPiece p
  sum := kcSum p
  piece := kcPiece p
  fn := fn_of (fnB_ok p)
  gv := fun g x h => by
    rcases g with _ | _ | _ | _ | _ | _ | _ | g <;> cases h
    · exact ⟨_, rfl, _, rfl⟩
    · exact ⟨_, rfl, _, rfl⟩
    · exact ⟨_, rfl, _, rfl⟩
    · exact ⟨_, rfl, rfl⟩
    · exact ⟨_, rfl, rfl⟩
    · exact ⟨_, rfl, rfl⟩
    · exact ⟨_, rfl, rfl⟩
  nob := fun x h => by
    simp only [List.mem_cons, List.not_mem_nil, or_false] at h
    rcases h with rfl | rfl | rfl | rfl | rfl | rfl | rfl | rfl <;> kernel_rfl
  cls := ⟨by kernel_rfl, by kernel_rfl, by kernel_rfl, by kernel_rfl, by kernel_rfl, by kernel_rfl⟩
  meth := ⟨by kernel_rfl, by kernel_rfl, by kernel_rfl⟩
  tb := fun t h => by
    simp only [tabs, List.mem_cons, List.not_mem_nil, or_false] at h
    rcases h with rfl | rfl | rfl <;> kernel_rfl
  exc := ⟨⟨_, _, _, _, _, _, _, _, _, _, _, _, _, _, _⟩, rfl, by kernel_rfl, by kernel_rfl⟩
  ff := ffAll p
end Nm
end

section
open PySem PySem.W PySem.Calls PyProof.Rows
open PySem.Sem (wp)
set_option tactic.hygienic false
set_option maxRecDepth 100000
set_option maxHeartbeats 8000000
namespace Nm

noncomputable def oLEVELS : List (List Nat × Int) := [([42], 3), ([47], 3), ([37], 3), ([60, 60], 2), ([62, 62], 2), ([38], 2), ([94], 2), ([124], 2), ([43], 1), ([45], 1)]
noncomputable def lPARTS : List (List Nat) := [[37, 104, 105], [37, 108, 111], [37, 112, 99, 114, 101, 108, 95, 104, 105], [37, 112, 99, 114, 101, 108, 95, 108, 111]]
noncomputable def lMARKS : List (List Nat) := [[42], [47], [37], [60, 60], [62, 62], [38], [94], [124], [43], [45]]
noncomputable def lILL : List (List Nat) := [[], [43], [49, 32, 43], [40, 49], [49, 41], [42, 32, 50], [49, 32, 50], [40, 41], [40, 49, 32, 43, 32, 41], [49, 32, 126, 32, 50], [97, 32, 98], [49, 32, 40, 50, 41], [40, 40, 51, 41], [45], [49, 32, 43, 32, 42, 32, 50]]

/-- the store at the law's start -/
noncomputable def start (a : Nat) (ns : List Int) : AH := fun b =>
  if b = a then some (.ro ns) else if b = aPARTS then some (.tup (lPARTS.map .str)) else if b = aLEVELS then some (.dict oLEVELS) else if b = aMARKS then some (.tup (lMARKS.map .str)) else if b = aILL then some (.tup (lILL.map .str)) else none

theorem top_soundN {prog : Program} {w : World} {base : Heap} {os : OsState} {σ : AH} {s : Shared} {K : Frag} {mg mb : Str → Option Value} {F : Nat → Option AFun} (hF : ∀ f fn, F f = some fn → FunOK K fn f) (cx : Cx K base mg mb)
    {n f : Nat} {args : List AV} {vs : List Value} {Q : VQ} (hn : n ≤ 300) (hf : nset f = true) (S : St prog w base [] os σ s) (hv : VRs args vs) (h : cwpN F (n + 1) f args σ Q (fun _ => False)) :
    wpN (model prog w) callerA (call (.ref (faddr f)) vs) (QQ prog w base [] os Q) (fun _ _ => False) s := by
  unfold cwpN at h
  rw [hf] at h
  obtain ⟨fn, hfn, hlen, hnu, h⟩ := h
  have H := hF f fn hfn
  obtain ⟨o, ho, hd⟩ := isFnAt_inv H.isf
  have X := cx.kin.keeps S.stays
  refine and6 H.ok fun hcd hchk h3 h4 hcell hloc => and3 h4 fun hco hgen hk => ?_
  refine wpN_call (codeN_call_def (binds := (fn.vars.take fn.np).zip vs) (by decide +kernel) (X _ _ ho) hd (cx.lim.imp fun mc h => ⟨h.1.keeps S.stays, h.2⟩) (codeRec_of X hcd) H.stm (BindsTo.of_eq (H.bind vs (hv.length.symm.trans hlen)))
    (noCell hcell) (fun x hx => beq_iff_eq.mp (List.all_eq_true.mp hloc _ (List.of_mem_zip hx).1)) (fun h₀ hns hk₀ => ?_) (not1 hco) (not1 hgen) (beq_iff_eq.mp hk))
  have e := call_entry (n := n) (A := callerA) (frs := []) H rfl rfl trivial (by
    have e1 : claimMargin = 300 := by decide +kernel
    have e2 : recursionLimit = 1000 := by decide +kernel
    show 1 + claimMargin + 1 + n + 2 < recursionLimit; omega) (by show 4 + 3 + 8 * n + 200 < cLine; unfold cLine; omega) S hv hlen hns hk₀
  exact wpN_mono (body_soundN (of_decide_eq_true (and2 h3).1) (cs_sound hF n) (cs_soundN hF n) hchk H.re base _ _ _ _ _ _ _ _ _ _ (fun _ => False) cx e.EO e.ok rfl e.S e.lr h) (fun fl s' q => call_leaves q) fun e s' ⟨_, _, _, _, _, _, x⟩ => x.elim

theorem tab_levels {prog : Program} {w : World} {h : Heap} (KX : (KF0 w.params).In h) : ∃ kvs, h.DictOf (strKind prog w) 65 kvs ∧ DR oLEVELS kvs := by
  refine ⟨[("*", .int 3 301), ("/", .int 3 303), ("%", .int 3 305), ("<<", .int 2 307), (">>", .int 2 309), ("&", .int 2 311), ("^", .int 2 313), ("|", .int 2 315), ("+", .int 1 317), ("-", .int 1 319)], ⟨_, _, _, KX 65 _ rfl, ⟨rfl, rfl, rfl⟩, rfl, ?_, ?_, ?_⟩, ?_⟩
  · intro e he
    rw [← Array.mem_toList_iff] at he
    simp only [List.mem_cons, List.not_mem_nil, or_false] at he
    rcases he with rfl | rfl | rfl | rfl | rfl | rfl | rfl | rfl | rfl | rfl
    · exact ⟨"*", rfl, rfl⟩
    · exact ⟨"/", rfl, rfl⟩
    · exact ⟨"%", rfl, rfl⟩
    · exact ⟨"<<", rfl, rfl⟩
    · exact ⟨">>", rfl, rfl⟩
    · exact ⟨"&", rfl, rfl⟩
    · exact ⟨"^", rfl, rfl⟩
    · exact ⟨"|", rfl, rfl⟩
    · exact ⟨"+", rfl, rfl⟩
    · exact ⟨"-", rfl, rfl⟩
  · repeat (first | exact Pairs.nil | refine Pairs.cons rfl rfl ?_)
  · decide
  · exact ⟨rfl, ⟨_, rfl⟩, rfl, ⟨_, rfl⟩, rfl, ⟨_, rfl⟩, rfl, ⟨_, rfl⟩, rfl, ⟨_, rfl⟩, rfl, ⟨_, rfl⟩, rfl, ⟨_, rfl⟩, rfl, ⟨_, rfl⟩, rfl, ⟨_, rfl⟩, rfl, ⟨_, rfl⟩, trivial⟩

theorem start_ob {prog : Program} {w : World} {h : Heap} {a : Addr} {vs : List Value} {ns : List Int} (KX : (KF0 w.params).In h) (hL : h.IsList a vs.toArray) (hI : IntsAre vs ns) (b : Nat) (o : AO) (e : start a ns b = some o) : OR prog w h [] h b o := by
  unfold start at e
  by_cases h0 : b = a
  · rw [if_pos h0] at e; cases e; subst h0; exact ⟨List.not_mem_nil, vs, hL, hI⟩
  rw [if_neg h0] at e
  by_cases h0 : b = aPARTS
  · rw [if_pos h0] at e; cases e; subst h0
    exact ⟨List.not_mem_nil, ⟨_, 0, KX 64 _ rfl, ⟨_, rfl⟩, ⟨_, rfl⟩, ⟨_, rfl⟩, ⟨_, rfl⟩, trivial⟩, .inr (.head _)⟩
  rw [if_neg h0] at e
  by_cases h0 : b = aLEVELS
  · rw [if_pos h0] at e; cases e; subst h0
    obtain ⟨kvs, h1, h2⟩ := tab_levels (prog := prog) KX
    exact ⟨List.not_mem_nil, by decide, kvs, h1, h2⟩
  rw [if_neg h0] at e
  by_cases h0 : b = aMARKS
  · rw [if_pos h0] at e; cases e; subst h0
    exact ⟨List.not_mem_nil, ⟨_, 0, KX 171 _ rfl, ⟨_, rfl⟩, ⟨_, rfl⟩, ⟨_, rfl⟩, ⟨_, rfl⟩, ⟨_, rfl⟩, ⟨_, rfl⟩, ⟨_, rfl⟩, ⟨_, rfl⟩, ⟨_, rfl⟩, ⟨_, rfl⟩, trivial⟩, .inr (by decide)⟩
  rw [if_neg h0] at e
  by_cases h0 : b = aILL
  · rw [if_pos h0] at e; cases e; subst h0
    exact ⟨List.not_mem_nil, ⟨_, 0, KX 172 _ rfl, ⟨_, rfl⟩, ⟨_, rfl⟩, ⟨_, rfl⟩, ⟨_, rfl⟩, ⟨_, rfl⟩, ⟨_, rfl⟩, ⟨_, rfl⟩, ⟨_, rfl⟩, ⟨_, rfl⟩, ⟨_, rfl⟩, ⟨_, rfl⟩, ⟨_, rfl⟩, ⟨_, rfl⟩, ⟨_, rfl⟩, ⟨_, rfl⟩, trivial⟩, .inr (by decide)⟩
  rw [if_neg h0] at e
  cases e

theorem start_apart {w : World} {h : Heap} {a : Addr} {vs : Array Value} (KX : (KF0 w.params).In h) (hL : h.IsList a vs) : ∀ t ∈ [aPARTS, aLEVELS, aMARKS, aILL], a ≠ t := by
  intro t ht q
  subst q
  obtain ⟨o, e, hc, _⟩ := hL
  simp only [List.mem_cons, List.not_mem_nil, or_false] at ht
  rcases ht with rfl | rfl | rfl | rfl
  · have := KX 64 _ rfl; rw [show h.get? aPARTS = h.get? 64 from rfl, this] at e; cases e; simp at hc
  · have := KX 65 _ rfl; rw [show h.get? aLEVELS = h.get? 65 from rfl, this] at e; cases e; simp at hc
  · have := KX 171 _ rfl; rw [show h.get? aMARKS = h.get? 171 from rfl, this] at e; cases e; simp at hc
  · have := KX 172 _ rfl; rw [show h.get? aILL = h.get? 172 from rfl, this] at e; cases e; simp at hc

set_option tactic.hygienic true in
theorem fin (lawOK : ∀ (a : Nat) (ns : List Int), ns.length ≤ 63 → (∀ t ∈ [aPARTS, aLEVELS, aMARKS, aILL], a ≠ t) → ∃ n ≤ 300, cwpN theProg (n + 1) 22 [.ref a] (start a ns) (fun v _ => v = .bool true) (fun _ => False)) : PySem.Challenge.rw_nm0015_01.Holds := holdsOf (by
  intro w s₀ s₁ mg mb G Y fa o pm cd doc dV kV ho hd' hcd hD hmg hg args vals as hpre hlay hrd hwl hlo
  have KX := kIn_of Y
  refine Ground.open G ?_
  intro T B D TE TW
  wrow_args hpre hlay hrd hwl hlo
  clear hd' hcd hD ho
  rename_i ns _ _ _ _ _ _ _ a vs _ hL _ _ _ hI _ hlen _
  have cx : Cx (KF0 w.params) s₁.heap mg mb := ⟨KX, T.g, T.b, T.nolimit, T.builtins, kfAll _⟩
  obtain ⟨n, hn, hlaw⟩ := lawOK a ns (by omega) (start_apart KX hL)
  have S : St Challenge.rw_nm0015_01.row.prog w s₁.heap [] s₁.os (start a ns) s₁ := ⟨fun b o e => e, (fun p hp => by cases hp), List.nodup_nil, start_ob KX hL hI, hg, rfl⟩
  have hfa : Value.ref fa = .ref 247 := by
    have h1 := mg_of KX T.g (n := "law") (v := .ref 247) (by kernel_rfl)
    have hnm : dLaw.name = Str.ofString "law" := by kernel_rfl
    rw [hnm] at hmg
    rw [hmg] at h1
    exact Option.some.inj h1
  show wpN _ _ (call (Value.ref fa) [Value.ref a]) _ _ _
  rw [hfa]
  refine wpN_mono (top_soundN (fnAll _) cx hn (f := 22) (args := [.ref a]) rfl S (vs := [.ref a]) ⟨rfl, trivial⟩ hlaw) (fun v s' ⟨x, σ', hv, S', hq⟩ => ?_) fun _ _ x => x.elim
  subst hq
  cases hv
  refine GoodW.toG ⟨.inl ⟨.bool true, .bool true, [], rfl, ?_, .bool true, ?_, unshared_nil⟩, S'.stays, S'.os, S'.gens⟩
  · exact raisesW_false (by wrow_none_raised)
  · wrow_post)
end Nm
end

section
open PySem PySem.W PyProof.Rows
set_option tactic.hygienic false
set_option maxRecDepth 100000
set_option maxHeartbeats 1000000
namespace Nm

theorem filt_all (l : List Nat) : (List.range l.length).filterMap (l[·]?) = l := by
  have := StrLaws.picks l l.length 0 (by omega)
  simpa using this

/-- a clamp of one end -/
noncomputable def clampI (v : Option Int) (d n : Nat) : Nat := match v with
  | none => d
  | some i => (max 0 (min (if i < 0 then i + n else i) (n : Int))).toNat

theorem clampI_le (v : Option Int) {d n : Nat} (h : d ≤ n) : clampI v d n ≤ n := by
  cases v with
  | none => exact h
  | some i => simp only [clampI]; omega

theorem range_eq (a b : Nat) : sliceRange (a : Int) b 1 = (List.range (b - a)).map (fun k => a + k) := by
  unfold sliceRange
  simp only [show ((1 : Int) > 0) = True by simp, if_true]
  have e : (if (a : Int) < b then ((b : Int) - a + 1 - 1) / 1 else 0).toNat = b - a := by
    by_cases h : a < b
    · rw [if_pos (Int.ofNat_lt.mpr h), Int.ediv_one, Int.add_sub_cancel, Int.toNat_sub]
    · rw [if_neg (fun q => h (Int.ofNat_lt.mp q)), Nat.sub_eq_zero_of_le (Nat.le_of_not_lt h)]; rfl
  rw [e]
  refine List.map_congr_left fun k _ => ?_
  rw [Int.one_mul]; exact Int.toNat_natCast (a + k)
theorem ssi_eq (l u : Option Int) (n : Nat) : Builtin.Str.strSliceIndices l u 1 n = (List.range (clampI u n n - clampI l 0 n)).map (fun k => clampI l 0 n + k) := by
  have key : ∀ a b : Int, 0 ≤ a → 0 ≤ b → sliceRange a b 1 = (List.range (b.toNat - a.toNat)).map (fun k => a.toNat + k) := by
    intro a b ha hb
    obtain ⟨m, rfl⟩ := Int.eq_ofNat_of_zero_le ha
    obtain ⟨k, rfl⟩ := Int.eq_ofNat_of_zero_le hb
    exact range_eq m k
  have n0 : (0 : Int) ≤ n := Int.natCast_nonneg n
  cases l with
  | none => cases u with
    | none => exact key 0 n (Int.le_refl 0) n0
    | some j => exact key 0 _ (Int.le_refl 0) (Int.le_max_left 0 (min (if j < 0 then j + n else j) (n : Int)))
  | some i => cases u with
    | none => exact key _ n (Int.le_max_left 0 (min (if i < 0 then i + n else i) (n : Int))) n0
    | some j => exact key _ _ (Int.le_max_left 0 (min (if i < 0 then i + n else i) (n : Int))) (Int.le_max_left 0 (min (if j < 0 then j + n else j) (n : Int)))

theorem clamp_nat (k d n : Nat) : clampI (some (k : Int)) d n = min k n := by
  show (max 0 (min (if (k : Int) < 0 then (k : Int) + n else k) (n : Int))).toNat = min k n
  rw [if_neg (Int.not_lt.mpr (Int.natCast_nonneg k)), Int.max_eq_right (Int.le_min.mpr ⟨Int.natCast_nonneg k, Int.natCast_nonneg n⟩)]
  rcases Nat.le_total k n with h | h
  · rw [Int.min_eq_left (Int.ofNat_le.mpr h), Nat.min_eq_left h]; rfl
  · rw [Int.min_eq_right (Int.ofNat_le.mpr h), Nat.min_eq_right h]; rfl
theorem clamp_last (d n : Nat) : clampI (some (-1)) d n = n - 1 := by
  show (max 0 (min (if (-1 : Int) < 0 then (-1 : Int) + n else -1) (n : Int))).toNat = n - 1
  rw [if_pos (by decide)]
  omega
theorem cutS_eq (s : List Nat) (l u : Option Int) : cutS s l u = (s.drop (clampI l 0 s.length)).take (clampI u s.length s.length - clampI l 0 s.length) := by
  have hl := clampI_le l (Nat.zero_le s.length)
  have hu := clampI_le u (Nat.le_refl s.length)
  unfold cutS Txt.slice
  have hlen : Str.length ⟨s.toArray⟩ = s.length := by simp [Str.length]
  rw [hlen, ssi_eq]
  split
  · rename_i h
    simp at h
    have h1 : clampI u s.length s.length - clampI l 0 s.length = s.length := by omega
    have h2 : clampI l 0 s.length = 0 := by omega
    rw [h1, h2]; simp
  · by_cases hh : clampI l 0 s.length ≤ clampI u s.length s.length
    · have := StrLaws.picks s (clampI u s.length s.length - clampI l 0 s.length) (clampI l 0 s.length) (by omega)
      simpa using this
    · have : clampI u s.length s.length - clampI l 0 s.length = 0 := by omega
      simp [this]

theorem cut_to (s : List Nat) (b : Nat) : cutS s none (some (b : Int)) = s.take b := by
  rw [cutS_eq, clamp_nat]
  exact List.take_eq_take_min.symm
theorem cut_from (s : List Nat) (a : Nat) : cutS s (some (a : Int)) none = s.drop a := by
  rw [cutS_eq, clamp_nat]
  show (s.drop (min a s.length)).take (s.length - min a s.length) = s.drop a
  by_cases h : a ≤ s.length
  · rw [Nat.min_eq_left h]; exact List.take_of_length_le (Nat.le_of_eq List.length_drop)
  · have h := Nat.le_of_not_le h
    rw [Nat.min_eq_right h, List.drop_of_length_le h, List.drop_of_length_le (Nat.le_refl _)]; exact List.take_nil
theorem cut_both (s : List Nat) (a b : Nat) (h : a ≤ b) : cutS s (some (a : Int)) (some (b : Int)) = (s.drop a).take (b - a) := by
  rw [cutS_eq, clamp_nat, clamp_nat]
  by_cases h1 : a ≤ s.length
  · rw [Nat.min_eq_left h1]
    by_cases h2 : b ≤ s.length
    · rw [Nat.min_eq_left h2]
    · have h2 := Nat.le_of_not_le h2
      rw [Nat.min_eq_right h2, List.take_of_length_le (Nat.le_of_eq List.length_drop), List.take_of_length_le (by rw [List.length_drop]; exact Nat.sub_le_sub_right h2 a)]
  · have h1 := Nat.le_of_not_le h1
    rw [Nat.min_eq_right h1, List.drop_of_length_le h1, List.drop_of_length_le (Nat.le_refl _), List.take_nil, List.take_nil]
theorem cut_last (s : List Nat) : cutS s (some (-1)) none = s.drop (s.length - 1) := by
  rw [cutS_eq, clamp_last]
  exact List.take_of_length_le (Nat.le_of_eq List.length_drop)
theorem cut_init (s : List Nat) : cutS s none (some (-1)) = s.take (s.length - 1) := by
  rw [cutS_eq, clamp_last]; rfl

theorem subIn1 (c : Nat) (x : List Nat) : subIn [c] x = x.contains c := (PySem.StrLaws.found_one ⟨x.toArray⟩ c).trans (List.contains_eq_mem c x).symm
theorem in_sign : ∀ c < 128, subIn [c] (sBEGINS ++ sDIGITS) = (sBEGINS ++ sDIGITS).contains c := fun c _ => subIn1 c _
theorem in_begin : ∀ c < 128, subIn [c] sBEGINS = sBEGINS.contains c := fun c _ => subIn1 c _
theorem in_digit : ∀ c < 128, subIn [c] sDIGITS = sDIGITS.contains c := fun c _ => subIn1 c _
theorem in_blank : ∀ c < 128, subIn [c] [32, 9, 13] = [32, 9, 13].contains c := fun c _ => subIn1 c _
theorem in_quote : ∀ c < 128, subIn [c] [34, 39] = [34, 39].contains c := fun c _ => subIn1 c _
theorem in_mark : ∀ c < 128, subIn [c] [43, 45, 42, 47, 37, 38, 124, 94, 126, 40, 41, 44, 58, 59, 61, 64] = [43, 45, 42, 47, 37, 38, 124, 94, 126, 40, 41, 44, 58, 59, 61, 64].contains c := fun c _ => subIn1 c _

noncomputable def sHEX : List Nat := [48, 49, 50, 51, 52, 53, 54, 55, 56, 57, 97, 98, 99, 100, 101, 102]
/-- a figure's place, or -1 -/
noncomputable def placeOf (c : Nat) : Int := if sHEX.contains c then (sHEX.idxOf c : Nat) else -1
theorem find_hex : ∀ c < 128, Txt.find ⟨sHEX.toArray⟩ ⟨[c].toArray⟩ = placeOf c := by decide +kernel
theorem lo_lt : ∀ c < 128, lo1 c < 128 := by decide +kernel
theorem and_255 : ∀ c < 128, Builtin.bitAnd ((c : Nat) : Int) 255 = c := by decide +kernel
theorem xor_m1 (x : Int) : Builtin.bitXor (-1) x = -1 - x := by
  rw [bitXor_and]
  have : Builtin.bitAnd (-1) x = x := by
    unfold Builtin.bitAnd
    by_cases h : 0 ≤ x
    · have e : (Builtin.bitNot (-1)).toNat = 0 := by decide
      simp [h, e]
    · have e : (Builtin.bitNot (-1)).toNat = 0 := by decide
      simp only [h, decide_false, show decide (0 ≤ (-1 : Int)) = false by decide, e, Nat.zero_or]
      unfold Builtin.bitNot
      omega
  rw [this]; omega
theorem nnB {z p : Nat} (h : z < p) : ((z : Int)).natAbs < 2 * p := by omega
theorem bnB {z p : Nat} (h : z < p) : (Builtin.bitNot (z : Int)).natAbs < 2 * p := by unfold Builtin.bitNot; omega
theorem tnB {x : Int} {p : Nat} (h : x.natAbs < p) : x.toNat < p := by omega
theorem tbB {x : Int} {p : Nat} (h : x.natAbs < p) (h0 : ¬ 0 ≤ x) : (Builtin.bitNot x).toNat < p := by unfold Builtin.bitNot; omega
theorem sbB {x : Int} {z p : Nat} (h : x.natAbs < p) (h0 : 0 ≤ x) (hz : z ≤ x.toNat) : (x - (z : Int)).natAbs < 2 * p := by omega
theorem band_bits {x y : Int} {m : Nat} (hx : Builtin.Int.intBits x ≤ m) (hy : Builtin.Int.intBits y ≤ m) : Builtin.Int.intBits (Builtin.bitAnd x y) ≤ m + 1 := by
  have h1 := intBits_le_iff.mp hx
  have h2 := intBits_le_iff.mp hy
  refine intBits_le_iff.mpr ?_
  rw [Nat.pow_succ, Nat.mul_comm]
  unfold Builtin.bitAnd
  by_cases h : 0 ≤ x <;> by_cases h' : 0 ≤ y
  · simp only [h, h', decide_true]; exact nnB (Nat.lt_of_le_of_lt Nat.and_le_left (tnB h1))
  · simp only [h, h', decide_true, decide_false]; exact sbB h1 h Nat.and_le_left
  · simp only [h, h', decide_true, decide_false]; exact sbB h2 h' Nat.and_le_left
  · simp only [h, h', decide_false]; exact bnB (Nat.or_lt_two_pow (tbB h1 h) (tbB h2 h'))
theorem bnot_bits {x : Int} {m : Nat} (hx : Builtin.Int.intBits x ≤ m) : Builtin.Int.intBits (Builtin.bitNot x) ≤ m + 1 := by
  have h1 := intBits_le_iff.mp hx
  refine intBits_le_iff.mpr ?_
  rw [Nat.pow_succ]
  unfold Builtin.bitNot
  omega
theorem bor_bits {x y : Int} {m : Nat} (hx : Builtin.Int.intBits x ≤ m) (hy : Builtin.Int.intBits y ≤ m) : Builtin.Int.intBits (Builtin.bitOr x y) ≤ m + 3 :=
  bnot_bits (band_bits (bnot_bits hx) (bnot_bits hy))
theorem bxor_bits {x y : Int} {m : Nat} (hx : Builtin.Int.intBits x ≤ m) (hy : Builtin.Int.intBits y ≤ m) : Builtin.Int.intBits (Builtin.bitXor x y) ≤ m + 4 := by
  have := intBits_sub_le (bor_bits hx hy) (band_bits hx hy)
  refine Nat.le_trans this ?_
  omega
end Nm
end

section
open PySem PySem.W PyProof.Rows
set_option tactic.hygienic false
set_option maxRecDepth 100000
set_option maxHeartbeats 1000000
namespace Nm

/-- a sum -/
structure Sm where
  p : List Nat
  m : List Nat
  n : Int
  deriving DecidableEq, Inhabited
/-- a word: a sign, or what a piece is told to stand for -/
inductive Tk where | op (t : List Nat) | val (s : Sm)

noncomputable def orT (a b : List Nat) : List Nat := if a = [] then b else a
noncomputable def cancelS (s : Sm) : Sm := if s.p = s.m then ⟨[], [], s.n⟩ else s
noncomputable def absI (i : Int) : Int := if i < 0 then -i else i
noncomputable def numS (op : List Nat) (l r : Int) : Int :=
  if op = [47] then (if decide (l < 0) = decide (r < 0) then (absI l).fdiv (absI r) else -((absI l).fdiv (absI r)))
  else if op = [37] then (if l < 0 then -((absI l).fmod (absI r)) else (absI l).fmod (absI r))
  else if op = [42] then l * r
  else if op = [60, 60] then l * 2 ^ r.toNat
  else if op = [62, 62] then l.fdiv (2 ^ r.toNat)
  else if op = [38] then Builtin.bitAnd l r
  else if op = [124] then Builtin.bitOr l r else Builtin.bitXor l r
noncomputable def workS (op : List Nat) (a b : Sm) : Option Sm :=
  if op = [43] ∧ (a.p = [] ∨ b.p = []) ∧ (a.m = [] ∨ b.m = []) then some (cancelS ⟨orT a.p b.p, orT a.m b.m, a.n + b.n⟩)
  else if op = [45] ∧ (a.p = [] ∨ b.m = []) ∧ (a.m = [] ∨ b.p = []) then some (cancelS ⟨orT a.p b.m, orT a.m b.p, a.n - b.n⟩)
  else if ¬ (a.p = [] ∧ a.m = []) ∨ ¬ (b.p = [] ∧ b.m = []) ∨ op = [43] ∨ op = [45] then none
  else if (op = [47] ∨ op = [37]) ∧ b.n = 0 then none
  else if (op = [60, 60] ∨ op = [62, 62]) ∧ ¬ (0 ≤ b.n ∧ b.n < 64) then none
  else some ⟨[], [], numS op a.n b.n⟩

noncomputable def pLEV : List (List Nat × Int) := [([42], 3), ([47], 3), ([37], 3), ([60, 60], 2), ([62, 62], 2), ([38], 2), ([94], 2), ([124], 2), ([43], 1), ([45], 1)]
noncomputable def lev (g : List Nat) : Int := (pLEV.lookup g).getD 0
noncomputable def apS (g : List Nat) (s : List Sm) : Option (List Sm) := match s with
  | [] => none
  | o :: s => if g = [117, 43] then some (o :: s) else if g = [117, 45] then (workS [45] ⟨[], [], 0⟩ o).map (· :: s)
    else if g = [117, 126] then (workS [94] ⟨[], [], -1⟩ o).map (· :: s)
    else match s with
      | [] => none
      | a :: s => (workS g a o).map (· :: s)
noncomputable def hot (lv : Int) (g : List Nat) : Bool := g != [40] && (g.head? == some 117 || decide (lv ≤ lev g))
noncomputable def redS (lv : Int) : List (List Nat) → List Sm → Option (List (List Nat) × List Sm)
  | [], s => some ([], s)
  | g :: gs, s => if hot lv g then (apS g s).bind (redS lv gs) else some (g :: gs, s)
noncomputable def appS : List (List Nat) → List Sm → Option (List Sm)
  | [], s => some s
  | g :: gs, s => (apS g s).bind (appS gs)
structure Mc where
  gs : List (List Nat)
  s : List Sm
  w : Bool
noncomputable def closeS (gs : List (List Nat)) (s : List Sm) : Option Mc := match redS 0 gs s with
  | some (_ :: gs, s) => some ⟨gs, s, false⟩
  | _ => none
noncomputable def stepS (t : Tk) (c : Mc) : Option Mc := match t with
  | .op t => if c.w then (if t = [43] ∨ t = [45] ∨ t = [126] then some ⟨(117 :: t) :: c.gs, c.s, true⟩ else if t = [40] then some ⟨[40] :: c.gs, c.s, true⟩ else none)
    else if t = [41] then closeS c.gs c.s
    else if (pLEV.lookup t).isSome then (redS (lev t) c.gs c.s).map fun r => ⟨t :: r.1, r.2, true⟩ else none
  | .val v => if c.w then some ⟨c.gs, v :: c.s, false⟩ else none
noncomputable def runS : List Tk → Mc → Option Mc
  | [], c => some c
  | t :: ts, c => (stepS t c).bind (runS ts)
noncomputable def endS (c : Mc) : Option Sm := if c.w then none else match redS 0 c.gs c.s with
  | some ([], s) => s.getLast?
  | _ => none
noncomputable def parseS (ts : List Tk) : Option Sm := (runS ts ⟨[], [], true⟩).bind endS

/-- the trees -/
inductive Tr where | num (v : Int) (t : List Nat) | name (s : List Nat) | ahead (c : Nat) (t : Tr) | both (m : List Nat) (l r : Tr) deriving Inhabited
noncomputable def Tr.rank : Tr → Int | .num .. => 5 | .name _ => 5 | .ahead .. => 4 | .both m _ _ => lev m
noncomputable def Tr.value : Tr → Option Sm
  | .num v _ => some ⟨[], [], v⟩
  | .name s => some ⟨s, [], 0⟩
  | .ahead c t => (value t).bind fun v => if c = 43 then some v else if c = 45 then workS [45] ⟨[], [], 0⟩ v else workS [94] ⟨[], [], -1⟩ v
  | .both m l r => (value l).bind fun a => (value r).bind fun b => workS m a b
noncomputable def Tr.nodes : Tr → Nat | .num .. => 1 | .name _ => 1 | .ahead _ t => nodes t + 1 | .both _ l r => nodes l + nodes r + 1
noncomputable def Blank (b : List Nat) : Prop := b = [] ∨ b = [32]
/-- a body, or a body in brackets -/
noncomputable def WrP (B : List Nat → List Tk → Prop) (rk least : Int) (x : List Nat) (k : List Tk) : Prop :=
  (least ≤ rk ∧ B x k) ∨ ∃ b y j, Blank b ∧ B y j ∧ x = [40] ++ b ++ y ++ b ++ [41] ∧ k = .op [40] :: j ++ [.op [41]]
noncomputable def Bd : Tr → List Nat → List Tk → Prop
  | .num v t, x, k => x = t ∧ k = [.val ⟨[], [], v⟩]
  | .name s, x, k => x = s ∧ k = [.val ⟨s, [], 0⟩]
  | .ahead c t, x, k => ∃ b y j, Blank b ∧ WrP (fun y j => Bd t y j) t.rank 4 y j ∧ x = [c] ++ b ++ y ∧ k = .op [c] :: j
  | .both m l r, x, k => ∃ b y j z i, Blank b ∧ WrP (fun y j => Bd l y j) l.rank (lev m) y j ∧ WrP (fun y j => Bd r y j) r.rank (lev m + 1) z i ∧
      x = y ++ b ++ m ++ b ++ z ∧ k = j ++ .op m :: i
noncomputable def Wr (t : Tr) (least : Int) (x : List Nat) (k : List Tk) : Prop := WrP (Bd t) t.rank least x k

noncomputable def pMARKS : List (List Nat) := [[42], [47], [37], [60, 60], [62, 62], [38], [94], [124], [43], [45]]
noncomputable def Tr.okS : Tr → Prop
  | .num .. => True | .name s => s ≠ [] | .ahead c t => (c = 43 ∨ c = 45 ∨ c = 126) ∧ okS t | .both m l r => m ∈ pMARKS ∧ okS l ∧ okS r

theorem run_app (a b : List Tk) (c : Mc) : runS (a ++ b) c = (runS a c).bind (runS b) := by
  induction a generalizing c with
  | nil => rfl
  | cons t ts ih => simp only [List.cons_append, runS]; cases stepS t c with
    | none => rfl
    | some c => exact ih c
theorem red_hot {lv : Int} : ∀ {pend : List (List Nat)} {gs : List (List Nat)} {s : List Sm}, pend.all (hot lv) = true → redS lv (pend ++ gs) s = (appS pend s).bind (redS lv gs)
  | [], _, _, _ => rfl
  | g :: pend, gs, s, h => by
    simp only [List.all_cons, Bool.and_eq_true] at h
    simp only [List.cons_append, redS, appS, h.1, if_true]
    cases apS g s with
    | none => rfl
    | some s => exact red_hot h.2
theorem app_app (a b : List (List Nat)) (s : List Sm) : appS (a ++ b) s = (appS a s).bind (appS b) := by
  induction a generalizing s with
  | nil => rfl
  | cons g gs ih => simp only [List.cons_append, appS]; cases apS g s with
    | none => rfl
    | some s => exact ih s
theorem hot_mono {a b : Int} {g : List Nat} (h : a ≤ b) (hg : hot b g = true) : hot a g = true := by
  simp only [hot, Bool.and_eq_true, Bool.or_eq_true, decide_eq_true_eq] at *
  exact ⟨hg.1, hg.2.imp id fun x => by omega⟩
theorem all_mono {a b : Int} {gs : List (List Nat)} (h : a ≤ b) (hg : gs.all (hot b) = true) : gs.all (hot a) = true := by
  rw [List.all_eq_true] at *
  exact fun g m => hot_mono h (hg g m)
/-- what lies below is not reached by a reduction of that level -/
noncomputable def Ctx (lv : Int) (gs : List (List Nat)) : Prop := ∀ own s, lv ≤ own → own ≤ 3 → redS own gs s = some (gs, s)
theorem Ctx.mono {a b : Int} {gs : List (List Nat)} (h : a ≤ b) (c : Ctx a gs) : Ctx b gs := fun own s x y => c own s (by omega) y
theorem Ctx.high {lv : Int} {gs : List (List Nat)} (h : 3 < lv) : Ctx lv gs := fun own s x y => by omega
theorem Ctx.paren {lv : Int} {gs : List (List Nat)} : Ctx lv ([40] :: gs) := fun _ _ _ _ => by simp [redS, hot]
theorem Ctx.nil {lv : Int} : Ctx lv [] := fun _ _ _ _ => rfl
/-- the outcome of a tree's words -/
noncomputable def Res (t : Tr) (lv : Int) (gs : List (List Nat)) (s : List Sm) : Option Mc → Prop
  | none => t.value = none
  | some c => c.w = false ∧ ∃ pend, c.gs = pend ++ gs ∧ pend.all (hot lv) = true ∧ appS pend c.s = t.value.map (· :: s)
theorem mark_facts : ∀ m ∈ pMARKS, (pLEV.lookup m).isSome = true ∧ m ≠ [41] ∧ m ≠ [40] ∧ 1 ≤ lev m ∧ lev m ≤ 3 ∧ m ≠ [117, 43] ∧ m ≠ [117, 45] ∧ m ≠ [117, 126] ∧ m.head? ≠ some 117 := by decide +kernel

theorem res_mono {t : Tr} {a b : Int} {gs : List (List Nat)} {s : List Sm} {o : Option Mc} (h : a ≤ b) (r : Res t b gs s o) : Res t a gs s o := by
  cases o with
  | none => exact r
  | some c => obtain ⟨h1, pend, h2, h3, h4⟩ := r; exact ⟨h1, pend, h2, all_mono h h3, h4⟩

theorem rank_pos : ∀ t : Tr, t.okS → 1 ≤ t.rank
  | .num .., _ => by show (1 : Int) ≤ 5; decide
  | .name _, _ => by show (1 : Int) ≤ 5; decide
  | .ahead .., _ => by show (1 : Int) ≤ 4; decide
  | .both m _ _, ⟨h, _⟩ => (mark_facts m h).2.2.2.1
theorem wrp_run {t : Tr} (ok : 1 ≤ t.rank) {least : Int} {x : List Nat} {k : List Tk} (h : WrP (fun x k => Bd t x k) t.rank least x k)
    (ih : ∀ x k gs s, Bd t x k → Ctx t.rank gs → Res t t.rank gs s (runS k ⟨gs, s, true⟩)) (gs : List (List Nat)) (s : List Sm) (c : Ctx least gs) : Res t least gs s (runS k ⟨gs, s, true⟩) := by
  rcases h with ⟨h1, h2⟩ | ⟨b, y, j, hb, h2, rfl, rfl⟩
  · exact res_mono h1 (ih x k gs s h2 (c.mono h1))
  · have r := ih y j ([40] :: gs) s h2 Ctx.paren
    simp only [List.cons_append, runS, stepS]
    simp only [if_true, show ¬ (([40] : List Nat) = [43] ∨ ([40] : List Nat) = [45] ∨ ([40] : List Nat) = [126]) by decide, if_false, Option.bind_some]
    rw [run_app]
    revert r
    cases runS j ⟨[40] :: gs, s, true⟩ with
    | none => exact fun r => r
    | some c =>
      obtain ⟨gs', s', w⟩ := c
      rintro ⟨rfl, pend, rfl, h3, h4⟩
      have h3' := all_mono (a := 0) (b := t.rank) (by omega) h3
      simp only [Option.bind_some, runS, stepS, closeS, red_hot h3', Bool.false_eq_true, if_false, if_true]
      rw [h4]
      cases hv : t.value with
      | none => exact hv
      | some v =>
        simp only [Option.map_some, Option.bind_some, redS, hot]
        exact ⟨rfl, [], rfl, rfl, by rw [hv]; rfl⟩

theorem bd_run : ∀ (t : Tr), t.okS → ∀ x k gs s, Bd t x k → Ctx t.rank gs → Res t t.rank gs s (runS k ⟨gs, s, true⟩)
  | .num v tx, _, x, k, gs, s, h, _ => by
    obtain ⟨_, rfl⟩ := h
    exact ⟨rfl, [], rfl, rfl, rfl⟩
  | .name n, _, x, k, gs, s, h, _ => by
    obtain ⟨_, rfl⟩ := h
    exact ⟨rfl, [], rfl, rfl, rfl⟩
  | .ahead c t, ⟨hc, ok⟩, x, k, gs, s, hb, _ => by
    obtain ⟨b, y, j, _, h, _, rfl⟩ := hb
    have r := wrp_run (rank_pos t ok) h (bd_run t ok) ([117, c] :: gs) s (Ctx.high (by decide))
    have hs : stepS (.op [c]) ⟨gs, s, true⟩ = some ⟨[117, c] :: gs, s, true⟩ := by rcases hc with rfl | rfl | rfl <;> rfl
    simp only [runS, hs, Option.bind_some]
    revert r
    cases runS j ⟨[117, c] :: gs, s, true⟩ with
    | none => intro r; show Tr.value _ = none; simp only [Tr.value]; rw [show t.value = none from r]; rfl
    | some d =>
      obtain ⟨gs', s', w⟩ := d
      rintro ⟨rfl, pend, rfl, h3, h4⟩
      refine ⟨rfl, pend ++ [[117, c]], by simp, ?_, ?_⟩
      · rw [List.all_append, show pend.all (hot (Tr.ahead c t).rank) = true from h3]
        simp [hot]
      · rw [app_app]
        rw [show appS pend s' = t.value.map (· :: s) from h4]
        simp only [Tr.value]
        cases t.value with
        | none => rfl
        | some v =>
          rcases hc with rfl | rfl | rfl
          · rfl
          · simp only [Option.map_some, Option.bind_some, appS, apS]
            simp
          · simp only [Option.map_some, Option.bind_some, appS, apS]
            simp
  | .both m l r, ⟨hm, okl, okr⟩, x, k, gs, s, hb, cx => by
    obtain ⟨b, y, j, z, i, _, hl, hr, _, rfl⟩ := hb
    obtain ⟨f1, f2, f3, f4, f5, f6, f7, f8, f9⟩ := mark_facts m hm
    have a := wrp_run (rank_pos l okl) hl (bd_run l okl) gs s cx
    rw [run_app]
    revert a
    cases runS j ⟨gs, s, true⟩ with
    | none => intro a; show Tr.value _ = none; simp only [Tr.value]; rw [show l.value = none from a]; rfl
    | some d =>
      obtain ⟨gs', s', w⟩ := d
      rintro ⟨rfl, pend, rfl, h3, h4⟩
      simp only [Option.bind_some, runS, stepS, Bool.false_eq_true, if_false, f2, f1, if_true]
      rw [red_hot h3, show appS pend s' = l.value.map (· :: s) from h4]
      cases hv : l.value with
      | none => show Tr.value _ = none; simp only [Tr.value, hv]; rfl
      | some v =>
        simp only [Option.map_some, Option.bind_some]
        rw [cx (lev m) (v :: s) (Int.le_refl _) f5]
        simp only [Option.map_some, Option.bind_some]
        have q := wrp_run (rank_pos r okr) hr (bd_run r okr) (m :: gs) (v :: s) (fun own s x y => by
          have : hot own m = false := by
            simp only [hot, Bool.and_eq_false_iff, Bool.or_eq_false_iff]
            exact .inr ⟨by simpa using f9, by simpa using (by omega : lev m < own)⟩
          simp [redS, this])
        revert q
        cases runS i ⟨m :: gs, v :: s, true⟩ with
        | none => intro a; show Tr.value _ = none; simp only [Tr.value, hv]; rw [show r.value = none from a]; rfl
        | some d =>
          obtain ⟨gs', s', w⟩ := d
          rintro ⟨rfl, pend', rfl, h5, h6⟩
          refine ⟨rfl, pend' ++ [m], by simp, ?_, ?_⟩
          · rw [List.all_append, all_mono (a := (Tr.both m l r).rank) (by show lev m ≤ lev m + 1; omega) h5]
            have : hot (lev m) m = true := by simp [hot, f3]
            simpa [Tr.rank] using this
          · rw [app_app]
            rw [show appS pend' s' = r.value.map (· :: v :: s) from h6]
            simp only [Tr.value, hv]
            cases r.value with
            | none => rfl
            | some u =>
              simp only [Option.map_some, Option.bind_some, appS, apS, f6, f7, f8, if_false]
              cases workS m v u <;> rfl
theorem parse_written {t : Tr} (ok : t.okS) {x : List Nat} {k : List Tk} (h : Wr t 0 x k) : parseS k = t.value := by
  have r := wrp_run (rank_pos t ok) h (bd_run t ok) [] [] Ctx.nil
  unfold parseS
  revert r
  cases runS k ⟨[], [], true⟩ with
  | none => exact fun r => (show t.value = none from r).symm
  | some c =>
    obtain ⟨gs, s, w⟩ := c
    rintro ⟨rfl, pend, rfl, h3, h4⟩
    simp only [Option.bind_some, endS, Bool.false_eq_true, if_false]
    rw [red_hot h3, show appS pend s = t.value.map (· :: []) from h4]
    cases t.value <;> rfl
end Nm
end

section
open PySem PySem.W PyProof.Rows
set_option tactic.hygienic false
set_option maxRecDepth 100000
set_option maxHeartbeats 1000000
namespace Nm

noncomputable abbrev Cm := List (List Nat) × List (List Nat) × Int
noncomputable def addS (a b : Cm) : Option Cm :=
  if 1 < (a.1 ++ b.1).length ∨ 1 < (a.2.1 ++ b.2.1).length then none
  else if a.1 ++ b.1 = a.2.1 ++ b.2.1 then some ([], [], a.2.2 + b.2.2) else some (a.1 ++ b.1, a.2.1 ++ b.2.1, a.2.2 + b.2.2)
noncomputable def wholeS (l r : Int) : Int := if decide (l < 0) = decide (r < 0) then (absI l).fdiv (absI r) else -((absI l).fdiv (absI r))
noncomputable def reckS (m : List Nat) (l r : Int) : Option Int :=
  if m = [47] ∨ m = [37] then (if r = 0 then none else some (if m = [47] then wholeS l r else l - wholeS l r * r))
  else if m = [60, 60] ∨ m = [62, 62] then (if r < 0 ∨ 63 < r then none else some (if m = [60, 60] then l * 2 ^ r.toNat else l.fdiv (2 ^ r.toNat)))
  else if m = [42] then some (l * r)
  else some (if m = [38] then Builtin.bitAnd l r else if m = [124] then Builtin.bitOr l r else Builtin.bitXor l r)
noncomputable def Tr.comes : Tr → Option Cm
  | .num v _ => some ([], [], v)
  | .name s => some ([s], [], 0)
  | .ahead c t => (comes t).bind fun a => if c = 43 then some a else if c = 45 then some (a.2.1, a.1, -a.2.2) else if a.1 = [] ∧ a.2.1 = [] then some ([], [], -1 - a.2.2) else none
  | .both m l r => (comes l).bind fun a => (comes r).bind fun b =>
      if m = [43] then addS a b else if m = [45] then addS a (b.2.1, b.1, -b.2.2)
      else if ¬ (a.1 = [] ∧ a.2.1 = []) ∨ ¬ (b.1 = [] ∧ b.2.1 = []) then none
      else (reckS m a.2.2 b.2.2).map fun n => ([], [], n)
noncomputable def lst (x : List Nat) : List (List Nat) := if x = [] then [] else [x]
noncomputable def rep (s : Sm) : Cm := (lst s.p, lst s.m, s.n)

theorem rest_eq {l r : Int} : (if l < 0 then -((absI l).fmod (absI r)) else (absI l).fmod (absI r)) = l - wholeS l r * r := by
  have e := Int.mul_fdiv_add_fmod (absI l) (absI r)
  unfold wholeS
  generalize hq : (absI l).fdiv (absI r) = q at *
  generalize hm : (absI l).fmod (absI r) = m at *
  unfold absI at e
  by_cases h1 : l < 0 <;> by_cases h2 : r < 0
  · simp only [h1, h2, if_true] at e ⊢
    have : -r * q = -(q * r) := by rw [Int.neg_mul, Int.mul_comm]
    omega
  · simp only [h1, h2, if_true, if_false] at e ⊢
    have : r * q = q * r := Int.mul_comm _ _
    simp
    have : -q * r = -(q * r) := Int.neg_mul _ _
    omega
  · simp only [h1, h2, if_true, if_false] at e ⊢
    have : -r * q = -(q * r) := by rw [Int.neg_mul, Int.mul_comm]
    have : -q * r = -(q * r) := Int.neg_mul _ _
    simp
    omega
  · simp only [h1, h2, if_false, if_true] at e ⊢
    have : r * q = q * r := Int.mul_comm _ _
    omega

theorem add_rep (a b : Sm) : (workS [43] a b).map rep = addS (rep a) (rep b) := by
  obtain ⟨ap, am, an⟩ := a
  obtain ⟨bp, bm, bn⟩ := b
  unfold workS addS rep lst cancelS orT
  by_cases h1 : ap = [] <;> by_cases h2 : bp = [] <;> by_cases h3 : am = [] <;> by_cases h4 : bm = [] <;> simp_all
  all_goals (split <;> simp_all)
theorem sub_rep (a b : Sm) : (workS [45] a b).map rep = addS (rep a) ((rep b).2.1, (rep b).1, -(rep b).2.2) := by
  obtain ⟨ap, am, an⟩ := a
  obtain ⟨bp, bm, bn⟩ := b
  have e : an + -bn = an - bn := by omega
  unfold workS addS rep lst cancelS orT
  by_cases h1 : ap = [] <;> by_cases h2 : bp = [] <;> by_cases h3 : am = [] <;> by_cases h4 : bm = [] <;> simp_all
  all_goals (split <;> simp_all)
theorem lst_nil {x : List Nat} : (lst x = []) = (x = []) := by
  unfold lst; split <;> simp_all
theorem marks_oth : ∀ m ∈ pMARKS, m ≠ [43] → m ≠ [45] → m = [42] ∨ m = [47] ∨ m = [37] ∨ m = [60, 60] ∨ m = [62, 62] ∨ m = [38] ∨ m = [94] ∨ m = [124] := by decide +kernel
theorem num_reck {m : List Nat} (hm : m ∈ pMARKS) (h1 : m ≠ [43]) (h2 : m ≠ [45]) (l r : Int) : reckS m l r =
    if (m = [47] ∨ m = [37]) ∧ r = 0 then none else if (m = [60, 60] ∨ m = [62, 62]) ∧ ¬ (0 ≤ r ∧ r < 64) then none else some (numS m l r) := by
  have hr : (r < 0 ∨ 63 < r) = ¬ (0 ≤ r ∧ r < 64) := by apply propext; omega
  unfold reckS numS
  rcases marks_oth m hm h1 h2 with rfl | rfl | rfl | rfl | rfl | rfl | rfl | rfl
  · simp
  · by_cases h : r = 0 <;> simp [h, wholeS]
  · by_cases h : r = 0
    · simp [h]
    · simp only [h]
      simp [rest_eq]
  · simp only [hr]; simp
  · simp only [hr]; simp
  · simp
  · simp
  · simp
theorem oth_rep {m : List Nat} (hm : m ∈ pMARKS) (h1 : m ≠ [43]) (h2 : m ≠ [45]) (a b : Sm) : (workS m a b).map rep =
    if ¬ ((rep a).1 = [] ∧ (rep a).2.1 = []) ∨ ¬ ((rep b).1 = [] ∧ (rep b).2.1 = []) then none else (reckS m (rep a).2.2 (rep b).2.2).map fun n => ([], [], n) := by
  unfold workS
  simp only [h1, h2, false_and, if_false, or_false, rep, lst_nil]
  by_cases hc : ¬ (a.p = [] ∧ a.m = []) ∨ ¬ (b.p = [] ∧ b.m = [])
  · simp only [hc, if_true, Option.map_none]
  · simp only [hc, if_false, num_reck hm h1 h2]
    by_cases c1 : (m = [47] ∨ m = [37]) ∧ b.n = 0
    · simp only [c1, and_self, if_true, Option.map_none]
    · simp only [c1, if_false]
      by_cases c2 : (m = [60, 60] ∨ m = [62, 62]) ∧ ¬ (0 ≤ b.n ∧ b.n < 64)
      · simp only [c2, not_false_eq_true, and_self, if_true, Option.map_none]
      · simp only [c2, if_false]; rfl
theorem not_rep (a : Sm) : (workS [94] ⟨[], [], -1⟩ a).map rep = if (rep a).1 = [] ∧ (rep a).2.1 = [] then some ([], [], -1 - (rep a).2.2) else none := by
  rw [oth_rep (by decide) (by decide) (by decide)]
  have e : ∀ x : Int, reckS [94] (-1) x = some (-1 - x) := fun x => by rw [← xor_m1]; rfl
  simp only [show (rep ⟨[], [], -1⟩).1 = [] from rfl, show (rep ⟨[], [], -1⟩).2.1 = [] from rfl, show (rep ⟨[], [], -1⟩).2.2 = -1 from rfl, and_self, not_true_eq_false, false_or, e, Option.map_some]
  by_cases h : (rep a).1 = [] ∧ (rep a).2.1 = [] <;> simp [h]
noncomputable def Neat (s : Sm) : Prop := s.p = s.m → s.p = []
theorem neat_cancel (s : Sm) : Neat (cancelS s) := by
  unfold cancelS Neat; split <;> simp_all
theorem neat_work {op : List Nat} {a b c : Sm} (h : workS op a b = some c) : Neat c := by
  unfold workS at h
  split at h
  · cases h; exact neat_cancel _
  · split at h
    · cases h; exact neat_cancel _
    · split at h
      · cases h
      · split at h
        · cases h
        · split at h
          · cases h
          · cases h; exact fun _ => rfl
theorem neat_value : ∀ (t : Tr) (v : Sm), t.okS → t.value = some v → Neat v
  | .num .., v, _, h => by cases h; exact fun _ => rfl
  | .name s, v, ok, h => by cases h; exact fun x => x
  | .ahead c t, v, ⟨_, ok⟩, h => by
    simp only [Tr.value] at h
    cases e : t.value with
    | none => rw [e] at h; cases h
    | some u =>
      rw [e] at h
      simp only [Option.bind_some] at h
      split at h
      · cases h; exact neat_value t _ ok e
      · split at h <;> exact neat_work h
  | .both m l r, v, _, h => by
    simp only [Tr.value] at h
    cases e : l.value with
    | none => rw [e] at h; cases h
    | some u =>
      cases e' : r.value with
      | none => rw [e, e'] at h; cases h
      | some w =>
        rw [e, e'] at h
        exact neat_work h
theorem neg_rep (a : Sm) (ha : Neat a) : (workS [45] ⟨[], [], 0⟩ a).map rep = some ((rep a).2.1, (rep a).1, -(rep a).2.2) := by
  obtain ⟨ap, am, an⟩ := a
  unfold Neat at ha
  unfold workS rep lst cancelS orT
  by_cases h2 : ap = [] <;> by_cases h3 : am = [] <;> simp_all
  have : ¬ am = ap := fun x => ha x.symm
  simp_all
theorem comes_eq : ∀ t : Tr, t.okS → t.comes = t.value.map rep
  | .num .., _ => rfl
  | .name s, h => by
    have h' : s ≠ [] := h
    simp [Tr.comes, Tr.value, rep, lst, h']
  | .ahead c t, ⟨hc, ok⟩ => by
    simp only [Tr.comes, Tr.value, comes_eq t ok]
    cases hv : t.value with
    | none => rfl
    | some v =>
      simp only [Option.map_some, Option.bind_some]
      rcases hc with rfl | rfl | rfl
      · rfl
      · simp [neg_rep v (neat_value t v ok hv)]
      · simp [not_rep]
  | .both m l r, ⟨hm, okl, okr⟩ => by
    simp only [Tr.comes, Tr.value, comes_eq l okl, comes_eq r okr]
    cases l.value with
    | none => rfl
    | some v =>
      cases r.value with
      | none => rfl
      | some u =>
        simp only [Option.map_some, Option.bind_some]
        by_cases h1 : m = [43]
        · subst h1; simp [add_rep]
        · by_cases h2 : m = [45]
          · subst h2; simp [sub_rep]
          · rw [oth_rep hm h1 h2]; simp [h1, h2]
end Nm
end

section
open PySem PySem.W PyProof.Rows
set_option tactic.hygienic false
set_option maxRecDepth 100000
set_option maxHeartbeats 400000
set_option linter.unusedVariables false
set_option linter.unusedSimpArgs false
namespace Nm

theorem defCall {f : Nat} {fn : AFun} {n : Nat} {args : List AV} {σ : AH} {Q : VQ} {E : AH → Prop} (hf : theProg f = some fn) (hl : args.length = fn.np) (hu : ∀ v ∈ args, v ≠ .unb)
    (h : swp (cwp theProg n) fn.body (args ++ List.replicate (fn.vars.length - fn.np) .unb) σ (fun o _ σ' => Q o.val σ') E) : cwp theProg (n + 1) f args σ Q E :=
  ⟨fn, hf, hl, hu, h⟩

/-- all but some cells is kept -/
noncomputable def Kp (l : List Nat) (σ σ' : AH) : Prop := ∀ b o, b ∉ l → σ b = some o → σ' b = some o
noncomputable abbrev Al (σ σ' : AH) : Prop := Kp [] σ σ'
theorem Kp.refl (l : List Nat) (σ : AH) : Kp l σ σ := fun _ _ _ e => e
theorem Kp.trans {l : List Nat} {σ σ' σ'' : AH} (h : Kp l σ σ') (h' : Kp l σ' σ'') : Kp l σ σ'' := fun b o n e => h' b o n (h b o n e)
theorem Kp.sub {l l' : List Nat} {σ σ' : AH} (h : Kp l σ σ') (s : ∀ b ∈ l, b ∈ l') : Kp l' σ σ' := fun b o n e => h b o (fun m => n (s b m)) e
theorem Kp.of {l : List Nat} {σ σ' : AH} (h : Al σ σ') : Kp l σ σ' := fun b o _ e => h b o (by simp) e
theorem Kp.get {σ σ' : AH} (h : Kp [] σ σ') {b : Nat} {o : AO} (e : σ b = some o) : σ' b = some o := h b o (by simp) e
theorem Al.new {σ : AH} {c : Nat} (o : AO) (h : σ c = none) : Al σ (σ.set c o) := fun b o' _ e => by
  rw [AH.set_ne]; exact e
  intro q; subst q; rw [h] at e; cases e
theorem Kp.set {l : List Nat} {σ : AH} {c : Nat} (o : AO) (h : c ∈ l) : Kp l σ (σ.set c o) := fun b o' n e => by
  rw [AH.set_ne]; exact e
  intro q; subst q; exact n h
theorem new {σ : AH} {o : AO} {Q : VQ} (h : ∀ c σ', σ c = none → σ' c = some o → Al σ σ' → Q (.ref c) σ') : newO σ o Q := fun c e => h c _ e (AH.set_same _ _ _) (Al.new o e)

section
variable {σ : AH} {Q : VQ} {t : Nat} {x : AV} {xs : List AV} {i : Int}
theorem seqIndex_nat {n : Nat} (h0 : 0 ≤ i) (h1 : i.toNat < n) : seqIndex? i n = some i.toNat := by
  unfold seqIndex?
  have h2 : ¬ i < 0 := Int.not_lt.mpr h0
  simp only [h2, if_false]
  rw [if_pos]
  simp; omega
theorem small_of (h0 : 0 ≤ i) (hb : i < 1000000) : Small i := ⟨Int.le_trans (by decide) h0, Int.lt_trans hb (by decide)⟩
theorem idx_list (h : σ t = some (.list xs)) (h0 : 0 ≤ i) (hb : i < 1000000) (hi : xs[i.toNat]? = some x) (q : Q x σ) : idxV (.ref t) (.int i) σ Q :=
  ⟨_, h, i, i.toNat, x, rfl, small_of h0 hb, seqIndex_nat h0 (List.getElem?_eq_some_iff.mp hi).1, hi, q⟩
theorem idx_tup (h : σ t = some (.tup xs)) (h0 : 0 ≤ i) (hb : i < 1000000) (hi : xs[i.toNat]? = some x) (q : Q x σ) : idxV (.ref t) (.int i) σ Q :=
  ⟨_, h, i, i.toNat, x, rfl, small_of h0 hb, seqIndex_nat h0 (List.getElem?_eq_some_iff.mp hi).1, hi, q⟩
theorem idx_last {l : List AV} (h : σ t = some (.list (l ++ [x]))) (q : Q x σ) : idxV (.ref t) (.int (-1)) σ Q := by
  refine ⟨_, h, -1, l.length, x, rfl, ⟨by decide, by decide⟩, ?_, by simp, q⟩
  unfold seqIndex?
  simp
  omega
theorem idx_ro {ns : List Int} {m : Int} (h : σ t = some (.ro ns)) (h0 : 0 ≤ i) (hb : i < 1000000) (hi : ns[i.toNat]? = some m) (q : Q (.int m) σ) : idxV (.ref t) (.int i) σ Q :=
  ⟨_, h, i, m, rfl, small_of h0 hb, h0, hi, q⟩
theorem idx_str {c : List Nat} {a : Nat} (h0 : 0 ≤ i) (hb : i < 1000000) (hi : c[i.toNat]? = some a) (q : Q (.str [a]) σ) : idxV (.str c) (.int i) σ Q :=
  ⟨i, i.toNat, a, rfl, small_of h0 hb, seqIndex_nat h0 (List.getElem?_eq_some_iff.mp hi).1, hi, q⟩
theorem bigOf {n : Nat} (h : n ≤ 1000000) : n ≤ big := Nat.le_trans h (by decide)
theorem len_list {n : Nat} (h : σ t = some (.list xs)) (hn : xs.length = n) (hb : n ≤ 1000000) (q : Q (.int n) σ) : b1V .len (.ref t) σ Q := ⟨n, ⟨_, h, congrArg some hn⟩, bigOf hb, q⟩
theorem len_tup {n : Nat} (h : σ t = some (.tup xs)) (hn : xs.length = n) (hb : n ≤ 1000000) (q : Q (.int n) σ) : b1V .len (.ref t) σ Q := ⟨n, ⟨_, h, congrArg some hn⟩, bigOf hb, q⟩
theorem len_ro {ns : List Int} {n : Nat} (h : σ t = some (.ro ns)) (hn : ns.length = n) (hb : n ≤ 1000000) (q : Q (.int n) σ) : b1V .len (.ref t) σ Q := ⟨n, ⟨_, h, congrArg some hn⟩, bigOf hb, q⟩
theorem len_str {c : List Nat} (hb : c.length ≤ 1000000) (q : Q (.int c.length) σ) : b1V .len (.str c) σ Q := ⟨c.length, rfl, bigOf hb, q⟩
theorem mulSmall {a b : Int} (hb : Builtin.Int.intBits b ≤ 64) : IntMulOk a b := IntMulOk.of_right hb
end

/-! Expressions that turn nothing old -/
noncomputable def Ev (C : CallT) (e : AE) (ρ : List AV) (σ : AH) (P : AV → AH → Prop) : Prop :=
  ∀ σ₀, Al σ σ₀ → ∀ (K : VQ) (E : AH → Prop), (∀ v σ', Al σ₀ σ' → P v σ' → K v σ') → ewp C e ρ σ₀ K E
noncomputable abbrev Is (C : CallT) (e : AE) (ρ : List AV) (σ : AH) (x : AV) : Prop := Ev C e ρ σ fun v _ => v = x
section
variable {C : CallT} {e a b c : AE} {ρ : List AV} {σ : AH} {P : AV → AH → Prop} {x y z : AV} {s s' u : AS} {Q : SQ} {E : AH → Prop}
theorem Ev.at {σ' : AH} (h : Ev C e ρ σ P) (k : Al σ σ') : Ev C e ρ σ' P := fun σ₀ a => h σ₀ (k.trans a)
theorem Ev.run (h : Ev C e ρ σ P) {K : VQ} (k : ∀ v σ', Al σ σ' → P v σ' → K v σ') : ewp C e ρ σ K E := h σ (Kp.refl _ _) K E k
theorem Is.go (h : Is C e ρ σ x) {K : VQ} (k : ∀ σ', Al σ σ' → K x σ') : ewp C e ρ σ K E := h σ (Kp.refl _ _) K E fun v σ' l e => e ▸ k σ' l
theorem Is.loc {i : Nat} (h : ρ.getD i .unb = x) (hn : x ≠ .unb) : Is C (.loc i) ρ σ x := fun σ₀ _ K E k => ⟨by rw [h]; exact hn, by rw [h]; exact k x σ₀ (Kp.refl _ _) rfl⟩
theorem Is.str {t : List Nat} : Is C (.str t) ρ σ (.str t) := fun σ₀ _ K E k => k _ σ₀ (Kp.refl _ _) rfl
theorem Is.int {t : Int} : Is C (.int t) ρ σ (.int t) := fun σ₀ _ K E k => k _ σ₀ (Kp.refl _ _) rfl
theorem Is.bool {t : Bool} : Is C (.bool t) ρ σ (.bool t) := fun σ₀ _ K E k => k _ σ₀ (Kp.refl _ _) rfl
theorem Is.none : Is C .none ρ σ .none := fun σ₀ _ K E k => k _ σ₀ (Kp.refl _ _) rfl
theorem Is.gv {g : Nat} : Is C (.gv g) ρ σ (gval g) := fun σ₀ _ K E k => k _ σ₀ (Kp.refl _ _) rfl
theorem Is.and {p q : Bool} (h : Is C a ρ σ (.bool p)) (h' : p = true → Is C b ρ σ (.bool q)) : Is C (.and a b) ρ σ (.bool (p && q)) := fun σ₀ l K E k => by
  refine h σ₀ l _ E fun v σ' l' e => ?_
  subst e
  cases p with
  | true => exact h' rfl σ' (l.trans l') K E fun v σ'' l'' e => k v σ'' (l'.trans l'') e
  | false => exact k _ σ' l' rfl
theorem Is.or {p q : Bool} (h : Is C a ρ σ (.bool p)) (h' : p = false → Is C b ρ σ (.bool q)) : Is C (.or a b) ρ σ (.bool (p || q)) := fun σ₀ l K E k => by
  refine h σ₀ l _ E fun v σ' l' e => ?_
  subst e
  cases p with
  | false => exact h' rfl σ' (l.trans l') K E fun v σ'' l'' e => k v σ'' (l'.trans l'') e
  | true => exact k _ σ' l' rfl
theorem Is.not {p : Bool} (h : Is C a ρ σ (.bool p)) : Is C (.not a) ρ σ (.bool (!p)) := fun σ₀ l K E k => by
  refine h σ₀ l _ E fun v σ' l' e => ?_
  subst e
  exact k _ σ' l' rfl
theorem Is.ife {p : Bool} (h : Is C c ρ σ (.bool p)) (h1 : p = true → Ev C a ρ σ P) (h2 : p = false → Ev C b ρ σ P) : Ev C (.ife c a b) ρ σ P := fun σ₀ l K E k => by
  refine h σ₀ l _ E fun v σ' l' e => ?_
  subst e
  cases p with
  | true => exact h1 rfl σ' (l.trans l') K E fun v σ'' l'' e => k v σ'' (l'.trans l'') e
  | false => exact h2 rfl σ' (l.trans l') K E fun v σ'' l'' e => k v σ'' (l'.trans l'') e
/-- two parts, then a step -/
theorem two {R : AV → AV → AH → VQ → Prop} {K : VQ} (h : Is C a ρ σ x) (h' : Is C b ρ σ y) {σ₀ : AH} (l : Al σ σ₀) {E : AH → Prop} (k : ∀ σ', Al σ₀ σ' → R x y σ' K) :
    ewp C a ρ σ₀ (fun x σ₁ => ewp C b ρ σ₁ (fun y σ₂ => R x y σ₂ K) E) E := by
  refine h σ₀ l _ E fun v σ' l' e => ?_
  subst e
  refine h' σ' (l.trans l') _ E fun v σ'' l'' e => ?_
  subst e
  exact k σ'' (l'.trans l'')
theorem Is.eqS {p q : List Nat} (h : Is C a ρ σ (.str p)) (h' : Is C b ρ σ (.str q)) : Is C (.cmp .eq a b) ρ σ (.bool (decide (p = q))) := fun σ₀ l K E k =>
  two (R := fun x y σ K => cmpV .eq x y σ K) h h' l fun σ' l' => k _ σ' l' rfl
theorem Is.neS {p q : List Nat} (h : Is C a ρ σ (.str p)) (h' : Is C b ρ σ (.str q)) : Is C (.cmp .ne a b) ρ σ (.bool (!decide (p = q))) := fun σ₀ l K E k =>
  two (R := fun x y σ K => cmpV .ne x y σ K) h h' l fun σ' l' => k _ σ' l' rfl
theorem Is.eqI {p q : Int} (h : Is C a ρ σ (.int p)) (h' : Is C b ρ σ (.int q)) : Is C (.cmp .eq a b) ρ σ (.bool (decide (p = q))) := fun σ₀ l K E k =>
  two (R := fun x y σ K => cmpV .eq x y σ K) h h' l fun σ' l' => k _ σ' l' rfl
theorem Is.neI {p q : Int} (h : Is C a ρ σ (.int p)) (h' : Is C b ρ σ (.int q)) : Is C (.cmp .ne a b) ρ σ (.bool (!decide (p = q))) := fun σ₀ l K E k =>
  two (R := fun x y σ K => cmpV .ne x y σ K) h h' l fun σ' l' => k _ σ' l' rfl
theorem Is.eqB {p q : Bool} (h : Is C a ρ σ (.bool p)) (h' : Is C b ρ σ (.bool q)) : Is C (.cmp .eq a b) ρ σ (.bool (p == q)) := fun σ₀ l K E k =>
  two (R := fun x y σ K => cmpV .eq x y σ K) h h' l fun σ' l' => k _ σ' l' rfl
theorem Is.lt {p q : Int} (h : Is C a ρ σ (.int p)) (h' : Is C b ρ σ (.int q)) : Is C (.cmp .lt a b) ρ σ (.bool (decide (p < q))) := fun σ₀ l K E k =>
  two (R := fun x y σ K => cmpV .lt x y σ K) h h' l fun σ' l' => ⟨_, _, rfl, rfl, k _ σ' l' rfl⟩
theorem Is.gt {p q : Int} (h : Is C a ρ σ (.int p)) (h' : Is C b ρ σ (.int q)) : Is C (.cmp .gt a b) ρ σ (.bool (decide (q < p))) := fun σ₀ l K E k =>
  two (R := fun x y σ K => cmpV .gt x y σ K) h h' l fun σ' l' => ⟨_, _, rfl, rfl, k _ σ' l' rfl⟩
theorem Is.ge {p q : Int} (h : Is C a ρ σ (.int p)) (h' : Is C b ρ σ (.int q)) : Is C (.cmp .ge a b) ρ σ (.bool (decide (q ≤ p))) := fun σ₀ l K E k =>
  two (R := fun x y σ K => cmpV .ge x y σ K) h h' l fun σ' l' => ⟨_, _, rfl, rfl, k _ σ' l' rfl⟩
theorem Is.isNone (h : Is C a ρ σ x) (hx : x ≠ .unb) : Is C (.cmp .is a .none) ρ σ (.bool (decide (x = .none))) := fun σ₀ l K E k =>
  two (R := fun x y σ K => cmpV .is x y σ K) h Is.none l fun σ' l' => ⟨hx, rfl, k _ σ' l' rfl⟩
theorem Is.isntNone (h : Is C a ρ σ x) (hx : x ≠ .unb) : Is C (.cmp .isnot a .none) ρ σ (.bool (!decide (x = .none))) := fun σ₀ l K E k =>
  two (R := fun x y σ K => cmpV .isnot x y σ K) h Is.none l fun σ' l' => ⟨hx, rfl, k _ σ' l' rfl⟩
theorem Is.inStr {p q : List Nat} (h : Is C a ρ σ (.str p)) (h' : Is C b ρ σ (.str q)) : Is C (.cmp .isin a b) ρ σ (.bool (subIn p q)) := fun σ₀ l K E k =>
  two (R := fun x y σ K => cmpV .isin x y σ K) h h' l fun σ' l' => ⟨p, rfl, k _ σ' l' rfl⟩
theorem Is.inTup2 {p q r : List Nat} (h : Is C a ρ σ (.str p)) : Is C (.cmp .isin a (.tup2 (.str q) (.str r))) ρ σ (.bool ([q, r].any (· == p))) := fun σ₀ l K E k => by
  refine h σ₀ l _ E fun v σ' l' e => ?_
  subst e
  show newO σ' (.tup [.str q, .str r]) (fun y σ₂ => cmpV .isin (.str p) y σ₂ K)
  exact new fun c σ'' _ hc l'' => ⟨p, rfl, _, hc, [q, r], rfl, k _ σ'' (l'.trans l'') rfl⟩
theorem Is.inTup3 {p q r s : List Nat} (h : Is C a ρ σ (.str p)) : Is C (.cmp .isin a (.tup3 (.str q) (.str r) (.str s))) ρ σ (.bool ([q, r, s].any (· == p))) := fun σ₀ l K E k => by
  refine h σ₀ l _ E fun v σ' l' e => ?_
  subst e
  show newO σ' (.tup [.str q, .str r, .str s]) (fun y σ₂ => cmpV .isin (.str p) y σ₂ K)
  exact new fun c σ'' _ hc l'' => ⟨p, rfl, _, hc, [q, r, s], rfl, k _ σ'' (l'.trans l'') rfl⟩
theorem strsOf_map (ys : List (List Nat)) : strsOf (ys.map .str) = some ys := by
  induction ys with
  | nil => rfl
  | cons y ys ih => exact congrArg (Option.map (y :: ·)) ih
theorem Is.inTup {p : List Nat} {t : Nat} {ys : List (List Nat)} (h : Is C a ρ σ (.str p)) (h' : Is C b ρ σ (.ref t)) (ht : σ t = some (.tup (ys.map .str))) : Is C (.cmp .isin a b) ρ σ (.bool (ys.any (· == p))) := fun σ₀ l K E k =>
  two (R := fun x y σ K => cmpV .isin x y σ K) h h' l fun σ' l' => ⟨p, rfl, _, (l.trans l').get ht, ys, strsOf_map ys, k _ σ' l' rfl⟩
theorem Is.inDict {p : List Nat} {t : Nat} {d : List (List Nat × Int)} (h : Is C a ρ σ (.str p)) (h' : Is C b ρ σ (.ref t)) (ht : σ t = some (.dict d)) : Is C (.cmp .isin a b) ρ σ (.bool (d.lookup p).isSome) := fun σ₀ l K E k =>
  two (R := fun x y σ K => cmpV .isin x y σ K) h h' l fun σ' l' => ⟨p, rfl, _, (l.trans l').get ht, k _ σ' l' rfl⟩
theorem Is.ofBin {o : BOp} (h : Is C a ρ σ x) (h' : Is C b ρ σ y) (k : ∀ σ' (K : VQ), K z σ' → binV o x y σ' K) : Is C (.bin o a b) ρ σ z := fun σ₀ l K E q =>
  two (R := fun x y σ K => binV o x y σ K) h h' l fun σ' l' => k _ _ (q _ σ' l' rfl)
theorem Is.add {p q : Int} (h : Is C a ρ σ (.int p)) (h' : Is C b ρ σ (.int q)) : Is C (.bin .add a b) ρ σ (.int (p + q)) := Is.ofBin h h' fun _ _ k => ⟨q, rfl, k⟩
theorem Is.sub {p q : Int} (h : Is C a ρ σ (.int p)) (h' : Is C b ρ σ (.int q)) : Is C (.bin .sub a b) ρ σ (.int (p - q)) := Is.ofBin h h' fun _ _ k => ⟨p, q, rfl, rfl, k⟩
theorem Is.mul {p q : Int} (h : Is C a ρ σ (.int p)) (h' : Is C b ρ σ (.int q)) (m : IntMulOk p q) : Is C (.bin .mul a b) ρ σ (.int (p * q)) := Is.ofBin h h' fun _ _ k => ⟨q, rfl, m, k⟩
theorem Is.fdiv {p q : Int} (h : Is C a ρ σ (.int p)) (h' : Is C b ρ σ (.int q)) (m : q ≠ 0) (m' : q.natAbs.log2 < 9000) : Is C (.bin .fdiv a b) ρ σ (.int (p.fdiv q)) := Is.ofBin h h' fun _ _ k => ⟨p, q, rfl, rfl, m, m', k⟩
theorem Is.mod {p q : Int} (h : Is C a ρ σ (.int p)) (h' : Is C b ρ σ (.int q)) (m : q ≠ 0) : Is C (.bin .mod a b) ρ σ (.int (p.fmod q)) := Is.ofBin h h' fun _ _ k => ⟨p, q, rfl, rfl, m, k⟩
theorem Is.cat {p q : List Nat} (h : Is C a ρ σ (.str p)) (h' : Is C b ρ σ (.str q)) (m : p.length + q.length ≤ 1000000) : Is C (.bin .add a b) ρ σ (.str (p ++ q)) := Is.ofBin h h' fun _ _ k => ⟨q, rfl, bigOf m, k⟩
theorem Is.neg {p : Int} (h : Is C a ρ σ (.int p)) : Is C (.neg a) ρ σ (.int (-p)) := fun σ₀ l K E k => Is.go (h.at l) fun σ' l' => ⟨p, rfl, k _ σ' l' rfl⟩
theorem Is.attr {t k : Nat} (h : Is C a ρ σ (.ref t)) (g : ∀ σ' (K : VQ), Al σ σ' → K x σ' → attrV (.ref t) k σ' K) : Is C (.attr a k) ρ σ x := fun σ₀ l K E q => by
  refine h σ₀ l _ E fun v σ' l' e => ?_
  subst e
  exact g σ' K (l.trans l') (q _ σ' l' rfl)
theorem Is.plus {t : Nat} {p m : List Nat} {n : Int} (h : Is C a ρ σ (.ref t)) (g : σ t = some (.sum p m n)) : Is C (.attr a 0) ρ σ (.str p) := h.attr fun σ' K l k => ⟨t, _, _, rfl, l.get g, rfl, k⟩
theorem Is.minus {t : Nat} {p m : List Nat} {n : Int} (h : Is C a ρ σ (.ref t)) (g : σ t = some (.sum p m n)) : Is C (.attr a 1) ρ σ (.str m) := h.attr fun σ' K l k => ⟨t, _, _, rfl, l.get g, rfl, k⟩
theorem Is.number {t : Nat} {p m : List Nat} {n : Int} (h : Is C a ρ σ (.ref t)) (g : σ t = some (.sum p m n)) : Is C (.attr a 2) ρ σ (.int n) := h.attr fun σ' K l k => ⟨t, _, _, rfl, l.get g, rfl, k⟩
theorem Is.kind {t : Nat} {p m : List Nat} {n : AV} (h : Is C a ρ σ (.ref t)) (g : σ t = some (.piece p m n)) : Is C (.attr a 3) ρ σ (.str p) := h.attr fun σ' K l k => ⟨t, _, _, rfl, l.get g, rfl, k⟩
theorem Is.text {t : Nat} {p m : List Nat} {n : AV} (h : Is C a ρ σ (.ref t)) (g : σ t = some (.piece p m n)) : Is C (.attr a 4) ρ σ (.str m) := h.attr fun σ' K l k => ⟨t, _, _, rfl, l.get g, rfl, k⟩
theorem Is.val {t : Nat} {p m : List Nat} {n : AV} (h : Is C a ρ σ (.ref t)) (g : σ t = some (.piece p m n)) : Is C (.attr a 5) ρ σ n := h.attr fun σ' K l k => ⟨t, _, _, rfl, l.get g, rfl, k⟩
theorem Is.ofB1 {f : B1} (h : Is C a ρ σ x) (g : ∀ σ' (K : VQ), Al σ σ' → K y σ' → b1V f x σ' K) : Is C (.b1 f a) ρ σ y := fun σ₀ l K E q => by
  refine h σ₀ l _ E fun v σ' l' e => ?_
  subst e
  exact g σ' K (l.trans l') (q _ σ' l' rfl)
theorem Is.abs {i : Int} (h : Is C a ρ σ (.int i)) : Is C (.b1 .abs a) ρ σ (.int (absI i)) := h.ofB1 fun _ _ _ k => ⟨i, rfl, k⟩
theorem Is.lenS {p : List Nat} (h : Is C a ρ σ (.str p)) (hb : p.length ≤ 1000000) : Is C (.b1 .len a) ρ σ (.int p.length) := h.ofB1 fun _ _ _ k => len_str hb k
theorem Is.ofIdx (h : Is C a ρ σ x) (h' : Is C b ρ σ y) (k : ∀ σ' (K : VQ), Al σ σ' → K z σ' → idxV x y σ' K) : Is C (.idx a b) ρ σ z := fun σ₀ l K E q =>
  two (R := fun x y σ K => idxV x y σ K) h h' l fun σ' l' => k _ _ (l.trans l') (q _ σ' l' rfl)
theorem Is.idxTup {t : Nat} {xs : List AV} {i : Int} (h : Is C a ρ σ (.ref t)) (h' : Is C b ρ σ (.int i)) (g : σ t = some (.tup xs)) (h0 : 0 ≤ i) (hb : i < 1000000) (hi : xs[i.toNat]? = some z) : Is C (.idx a b) ρ σ z :=
  h.ofIdx h' fun _ _ l k => idx_tup (l.get g) h0 hb hi k
theorem Is.idxList {t : Nat} {xs : List AV} {i : Int} (h : Is C a ρ σ (.ref t)) (h' : Is C b ρ σ (.int i)) (g : σ t = some (.list xs)) (h0 : 0 ≤ i) (hb : i < 1000000) (hi : xs[i.toNat]? = some z) : Is C (.idx a b) ρ σ z :=
  h.ofIdx h' fun _ _ l k => idx_list (l.get g) h0 hb hi k
theorem Is.idxS {s : List Nat} {i : Int} {c : Nat} (h : Is C a ρ σ (.str s)) (h' : Is C b ρ σ (.int i)) (h0 : 0 ≤ i) (hb : i < 1000000) (hi : s[i.toNat]? = some c) : Is C (.idx a b) ρ σ (.str [c]) :=
  h.ofIdx h' fun _ _ _ k => idx_str h0 hb hi k
theorem Is.idxD {t : Nat} {d : List (List Nat × Int)} {s : List Nat} {n : Int} (h : Is C a ρ σ (.ref t)) (h' : Is C b ρ σ (.str s)) (g : σ t = some (.dict d)) (hi : d.lookup s = some n) : Is C (.idx a b) ρ σ (.int n) :=
  h.ofIdx h' fun σ' K l k => ⟨_, l.get g, s, n, rfl, hi, k⟩
theorem Ev.mkSum {p m : List Nat} {n : Int} (h : Is C a ρ σ (.str p)) (h' : Is C b ρ σ (.str m)) (h'' : Is C c ρ σ (.int n)) : Ev C (.mk 0 a b c) ρ σ fun v σ' => ∃ r, v = .ref r ∧ σ' r = some (.sum p m n) := fun σ₀ l K E k => by
  refine h σ₀ l _ E fun v σ' l' e => ?_
  subst e
  refine h' σ' (l.trans l') _ E fun v σ₂ l₂ e => ?_
  subst e
  refine h'' σ₂ ((l.trans l').trans l₂) _ E fun v σ₃ l₃ e => ?_
  subst e
  exact ⟨p, m, n, rfl, rfl, rfl, new fun c σ₄ _ hc l₄ => k _ σ₄ (((l'.trans l₂).trans l₃).trans l₄) ⟨c, rfl, hc⟩⟩

/-- what is left to run -/
noncomputable def aft (C : CallT) (u : AS) (Q : SQ) (E : AH → Prop) : SQ := fun o ρ₁ σ₁ => match o with | .next => swp C u ρ₁ σ₁ Q E | .ret v => Q (.ret v) ρ₁ σ₁
theorem seq_ite {g : Bool} (hc : Is C c ρ σ (.bool g)) (ht : g = true → ∀ σ', Al σ σ' → swp C s ρ σ' (aft C u Q E) E)
    (hf : g = false → ∀ σ', Al σ σ' → swp C s' ρ σ' (aft C u Q E) E) : swp C (.seq (.ite c s s') u) ρ σ Q E := by
  refine hc σ (Kp.refl _ _) _ E fun v σ' l e => ?_
  subst e
  cases g with
  | true => exact ht rfl σ' l
  | false => exact hf rfl σ' l
theorem seq_ret (hc : Ev C e ρ σ P) (h : ∀ v σ', Al σ σ' → P v σ' → Q (.ret v) ρ σ') : swp C (.seq (.ret e) u) ρ σ Q E := hc σ (Kp.refl _ _) _ E fun v σ' l e => h v σ' l e
theorem seq_asg {i : Nat} (hc : Ev C e ρ σ P) (h : ∀ v σ', Al σ σ' → P v σ' → v ≠ .unb ∧ swp C u (ρ.set i v) σ' Q E) : swp C (.seq (.asg i e) u) ρ σ Q E := hc σ (Kp.refl _ _) _ E fun v σ' l e => h v σ' l e
theorem seq_let {i : Nat} (hc : Is C e ρ σ x) (hx : x ≠ .unb) (h : ∀ σ', Al σ σ' → swp C u (ρ.set i x) σ' Q E) : swp C (.seq (.asg i e) u) ρ σ Q E := hc σ (Kp.refl _ _) _ E fun v σ' l e => by subst e; exact ⟨hx, h σ' l⟩
theorem seq_asg2 {i j : Nat} (hc : Is C a ρ σ x) (hd : Is C b ρ σ y) (h : ∀ σ', Al σ σ' → swp C u ((ρ.set i x).set j y) σ' Q E) : swp C (.seq (.asg2 i j (.tup2 a b)) u) ρ σ Q E := by
  refine two (R := fun x y σ K => newO σ (.tup [x, y]) K) hc hd (Kp.refl _ _) fun σ' l => ?_
  exact new fun c σ₂ _ hc l₂ => ⟨c, x, y, rfl, hc, h σ₂ (l.trans l₂)⟩
theorem ret_is (hc : Is C e ρ σ x) (h : ∀ σ', Al σ σ' → Q (.ret x) ρ σ') : swp C (.seq (.ret e) u) ρ σ Q E := hc σ (Kp.refl _ _) _ E fun v σ' l q => q ▸ h σ' l
theorem seq_fault {i : Nat} (hi : ρ.getD i .unb ≠ .unb) (h : E σ) : swp C (.seq (.fault i) u) ρ σ Q E := ⟨hi, h⟩
end
end Nm
end

section
open PySem PySem.W PyProof.Rows
set_option tactic.hygienic false
set_option maxRecDepth 100000
set_option maxHeartbeats 2000000
set_option linter.unusedVariables false
set_option linter.unusedSimpArgs false
namespace Nm

theorem skip_next {C : CallT} {u : AS} {ρ : List AV} {σ : AH} {E : AH → Prop} {R : SQ} (h : swp C u ρ σ R E) : swp C .skip ρ σ (aft C u R E) E := h
theorem skip_end {C : CallT} {ρ : List AV} {σ : AH} {E : AH → Prop} {R : SQ} (h : R .next ρ σ) : swp C .skip ρ σ R E := h
noncomputable def Sml (s : Sm) : Prop := s.p.length ≤ 1000 ∧ s.m.length ≤ 1000
section
variable {C : CallT} {a b : AE} {ρ : List AV} {σ : AH} {P : AV → AH → Prop} {s s' u : AS} {Q : VQ} {E : AH → Prop}
theorem Is.orS {p q : List Nat} (h : Is C a ρ σ (.str p)) (h' : Is C b ρ σ (.str q)) (hp : p.length ≤ 1000) : Is C (.or a b) ρ σ (.str (orT p q)) := fun σ₀ l K E k => by
  refine h σ₀ l _ E fun v σ' l' e => ?_
  subst e
  refine ⟨by rw [show big = 16777216 from rfl]; omega, ?_⟩
  cases p with
  | nil => exact h' σ' (l.trans l') K E fun v σ'' l'' e => k v σ'' (l'.trans l'') e
  | cons c p => exact k _ σ' l' rfl
theorem Is.isNum {t n : Nat} {x : Sm} (h : Is (cwp theProg (n + 1)) a ρ σ (.ref t)) (g : σ t = some (.sum x.p x.m x.n)) : Is (cwp theProg (n + 1)) (.meth 0 a) ρ σ (.bool (decide (x.p = []) && decide (x.m = []))) := fun σ₀ l K E k => by
  refine h σ₀ l _ E fun v σ' l' e => ?_
  subst e
  have g' := (l.trans l').get g
  refine ⟨⟨t, _, _, _, rfl, g'⟩, ?_⟩
  refine defCall (fn := _) rfl rfl (by simp) ?_
  exact seq_ret (Is.and (Is.eqS (Is.plus (Is.loc rfl nofun) g') Is.str) fun _ => Is.eqS (Is.minus (Is.loc rfl nofun) g') Is.str) fun v σ'' l'' e => k _ _ (l'.trans l'') e

theorem cancelled_ok {t n : Nat} {x : Sm} (g : σ t = some (.sum x.p x.m x.n)) (h : ∀ r σ', Al σ σ' → σ' r = some (.sum (cancelS x).p (cancelS x).m (cancelS x).n) → Q (.ref r) σ') : cwp theProg (n + 1) 7 [.ref t] σ Q E := by
  refine defCall (fn := _) rfl rfl (by simp) ?_
  refine seq_ret (P := fun v σ' => ∃ r, v = .ref r ∧ σ' r = some (.sum (cancelS x).p (cancelS x).m (cancelS x).n)) (Is.ife (Is.eqS (Is.plus (Is.loc rfl nofun) g) (Is.minus (Is.loc rfl nofun) g)) (fun e => ?_) fun e => ?_) ?_
  · have e' : cancelS x = ⟨[], [], x.n⟩ := by unfold cancelS; rw [if_pos (by simpa using e)]
    rw [e']
    exact Ev.mkSum Is.str Is.str (Is.number (Is.loc rfl nofun) g)
  · have e' : cancelS x = x := by unfold cancelS; rw [if_neg (by simpa using e)]
    rw [e']
    intro σ₀ l K E k
    exact ⟨by simp, k _ σ₀ (Kp.refl _ _) ⟨t, rfl, l.get g⟩⟩
  · rintro v σ' l ⟨r, rfl, hr⟩
    exact h r σ' l hr

theorem absI_cases (i : Int) : absI i = i ∨ absI i = -i := by
  unfold absI
  by_cases h : i < 0
  · rw [if_pos h]; exact .inr rfl
  · rw [if_neg h]; exact .inl rfl
theorem natAbs_abs (i : Int) : (absI i).natAbs = i.natAbs := by
  rcases absI_cases i with h | h <;> rw [h]
  exact Int.natAbs_neg i
theorem bits_log {i : Int} (h : Builtin.Int.intBits i ≤ 8000) : (absI i).natAbs.log2 < 9000 := by
  have h1 := intBits_le_iff.mp h
  have e : (absI i).natAbs = i.natAbs := natAbs_abs i
  rw [e]
  by_cases h0 : i.natAbs = 0
  · rw [h0]; decide
  · have := (Nat.log2_lt h0).mpr h1
    omega

theorem Is.chain {c : AE} {p q r : Int} (h : Is C a ρ σ (.int p)) (h' : Is C b ρ σ (.int q)) (h'' : Is C c ρ σ (.int r)) : Is C (.chain a .le b .lt c) ρ σ (.bool (decide (p ≤ q) && decide (q < r))) := fun σ₀ l K E k => by
  refine h σ₀ l _ E fun v σ' l' e => ?_
  subst e
  refine h' σ' (l.trans l') _ E fun v σ₂ l₂ e => ?_
  subst e
  refine ⟨p, q, rfl, rfl, ?_⟩
  show (if decide (p ≤ q) = true then ewp C c ρ σ₂ (fun z σ₄ => cmpV .lt (.int q) z σ₄ K) E else K (.bool (decide (p ≤ q))) σ₂)
  generalize decide (p ≤ q) = g at k ⊢
  cases g with
  | true => exact Is.go (h''.at ((l.trans l').trans l₂)) fun σ₃ l₃ => ⟨q, r, rfl, rfl, k _ σ₃ ((l'.trans l₂).trans l₃) rfl⟩
  | false => exact k _ σ₂ (l'.trans l₂) rfl
theorem Is.shl {p q : Int} (h : Is C a ρ σ (.int p)) (h' : Is C b ρ σ (.int q)) (m : 0 ≤ q) (m' : Builtin.Int.intBits p ≤ 8000) (m'' : q < 64) : Is C (.bin .shl a b) ρ σ (.int (p * 2 ^ q.toNat)) := Is.ofBin h h' fun _ _ k => ⟨p, q, rfl, rfl, m, by unfold ibits; omega, k⟩
theorem Is.shr {p q : Int} (h : Is C a ρ σ (.int p)) (h' : Is C b ρ σ (.int q)) (m : 0 ≤ q) : Is C (.bin .shr a b) ρ σ (.int (p.fdiv (2 ^ q.toNat))) := Is.ofBin h h' fun _ _ k => ⟨p, q, rfl, rfl, m, k⟩
theorem Is.band {p q : Int} (h : Is C a ρ σ (.int p)) (h' : Is C b ρ σ (.int q)) : Is C (.bin .band a b) ρ σ (.int (Builtin.bitAnd p q)) := Is.ofBin h h' fun _ _ k => ⟨p, q, rfl, rfl, k⟩
theorem Is.bor {p q : Int} (h : Is C a ρ σ (.int p)) (h' : Is C b ρ σ (.int q)) : Is C (.bin .bor a b) ρ σ (.int (Builtin.bitOr p q)) := Is.ofBin h h' fun _ _ k => ⟨p, q, rfl, rfl, k⟩
theorem Is.bxor {p q : Int} (h : Is C a ρ σ (.int p)) (h' : Is C b ρ σ (.int q)) : Is C (.bin .bxor a b) ρ σ (.int (Builtin.bitXor p q)) := Is.ofBin h h' fun _ _ k => ⟨p, q, rfl, rfl, k⟩
theorem absI_ne {i : Int} (h : i ≠ 0) : absI i ≠ 0 := by
  rcases absI_cases i with e | e <;> rw [e]
  · exact h
  · exact Int.neg_ne_zero.mpr h
theorem Is.cong {e : AE} {x y : AV} (h : Is C e ρ σ x) (q : x = y) : Is C e ρ σ y := by subst q; exact h

theorem worked_ok {op : List Nat} {x y n : Nat} {a b : Sm} {line : Int} (hop : op ∈ pMARKS) (hx : σ x = some (.sum a.p a.m a.n)) (hy : σ y = some (.sum b.p b.m b.n)) (sa : Sml a)
    (fa : Builtin.Int.intBits a.n ≤ 8000) (fb : Builtin.Int.intBits b.n ≤ 8000)
    (hQ : ∀ c r σ', workS op a b = some c → Al σ σ' → σ' r = some (.sum c.p c.m c.n) → Q (.ref r) σ') (hE : workS op a b = none → ∀ σ', Al σ σ' → E σ') :
    cwp theProg (n + 2) 6 [.str op, .ref x, .ref y, .int line] σ Q E := by
  refine defCall (fn := _) rfl rfl (by simp) ?_
  show swp _ body_worked_out _ _ _ _
  unfold body_worked_out
  have L0 : ∀ {C : CallT} {σ : AH}, Is C (.loc 0) ([.str op, .ref x, .ref y, .int line] ++ List.replicate 4 .unb) σ (.str op) := Is.loc rfl nofun
  have L1 : ∀ {C : CallT} {σ : AH}, Is C (.loc 1) ([.str op, .ref x, .ref y, .int line] ++ List.replicate 4 .unb) σ (.ref x) := Is.loc rfl nofun
  have L2 : ∀ {C : CallT} {σ : AH}, Is C (.loc 2) ([.str op, .ref x, .ref y, .int line] ++ List.replicate 4 .unb) σ (.ref y) := Is.loc rfl nofun
  refine seq_ite (Is.and (Is.eqS L0 Is.str) fun _ => Is.and (Is.or (Is.eqS (Is.plus L1 hx) Is.str) fun _ => Is.eqS (Is.plus L2 hy) Is.str) fun _ => Is.or (Is.eqS (Is.minus L1 hx) Is.str) fun _ => Is.eqS (Is.minus L2 hy) Is.str) (fun g σ1 l1 => ?_) fun g σ1 l1 => ?_
  · have c : op = [43] ∧ (a.p = [] ∨ b.p = []) ∧ (a.m = [] ∨ b.m = []) := by simpa using g
    have hw : workS op a b = some (cancelS ⟨orT a.p b.p, orT a.m b.m, a.n + b.n⟩) := by unfold workS; rw [if_pos c]
    have hx := l1.get hx
    have hy := l1.get hy
    refine (Ev.mkSum (Is.orS (Is.plus L1 hx) (Is.plus L2 hy) sa.1) (Is.orS (Is.minus L1 hx) (Is.minus L2 hy) sa.2) (Is.add (Is.number L1 hx) (Is.number L2 hy))).run ?_
    rintro v σ2 l2 ⟨r, rfl, hr⟩
    exact cancelled_ok (x := ⟨orT a.p b.p, orT a.m b.m, a.n + b.n⟩) hr fun r σ3 l3 h3 => hQ _ r σ3 hw ((l1.trans l2).trans l3) h3
  have c1 : ¬ (op = [43] ∧ (a.p = [] ∨ b.p = []) ∧ (a.m = [] ∨ b.m = [])) := by simpa using g
  have hx := l1.get hx
  have hy := l1.get hy
  refine seq_ite (Is.and (Is.eqS L0 Is.str) fun _ => Is.and (Is.or (Is.eqS (Is.plus L1 hx) Is.str) fun _ => Is.eqS (Is.minus L2 hy) Is.str) fun _ => Is.or (Is.eqS (Is.minus L1 hx) Is.str) fun _ => Is.eqS (Is.plus L2 hy) Is.str) (fun g σ2 l2 => ?_) fun g σ2 l2 => ?_
  · have c : op = [45] ∧ (a.p = [] ∨ b.m = []) ∧ (a.m = [] ∨ b.p = []) := by simpa using g
    have hw : workS op a b = some (cancelS ⟨orT a.p b.m, orT a.m b.p, a.n - b.n⟩) := by unfold workS; rw [if_neg c1, if_pos c]
    have hx := l2.get hx
    have hy := l2.get hy
    refine (Ev.mkSum (Is.orS (Is.plus L1 hx) (Is.minus L2 hy) sa.1) (Is.orS (Is.minus L1 hx) (Is.plus L2 hy) sa.2) (Is.sub (Is.number L1 hx) (Is.number L2 hy))).run ?_
    rintro v σ3 l3 ⟨r, rfl, hr⟩
    exact cancelled_ok (x := ⟨orT a.p b.m, orT a.m b.p, a.n - b.n⟩) hr fun r σ4 l4 h4 => hQ _ r σ4 hw (((l1.trans l2).trans l3).trans l4) h4
  have c2 : ¬ (op = [45] ∧ (a.p = [] ∨ b.m = []) ∧ (a.m = [] ∨ b.p = [])) := by simpa using g
  have hx := l2.get hx
  have hy := l2.get hy
  have hpm : ∀ m ∈ pMARKS, subIn m [43, 45] = (decide (m = [43]) || decide (m = [45])) := by decide +kernel
  refine seq_ite (Is.or (Is.not (Is.isNum L1 hx)) fun _ => Is.or (Is.not (Is.isNum L2 hy)) fun _ => Is.inStr L0 Is.str) (fun g σ3 l3 => ?_) fun g σ3 l3 => ?_
  · rw [hpm op hop] at g
    have c : ¬ (a.p = [] ∧ a.m = []) ∨ ¬ (b.p = [] ∧ b.m = []) ∨ op = [43] ∨ op = [45] := by simpa [-not_and, Classical.not_and_iff_not_or_not] using g
    refine seq_fault (by nofun) (hE ?_ _ ((l1.trans l2).trans l3))
    unfold workS; rw [if_neg c1, if_neg c2, if_pos c]
  rw [hpm op hop] at g
  have c3 : ¬ (¬ (a.p = [] ∧ a.m = []) ∨ ¬ (b.p = [] ∧ b.m = []) ∨ op = [43] ∨ op = [45]) := by simpa using g
  have hx := l3.get hx
  have hy := l3.get hy
  have l13 := (l1.trans l2).trans l3
  refine seq_asg2 (Is.number L1 hx) (Is.number L2 hy) fun σ4 l4 => ?_
  show swp _ _ [.str op, .ref x, .ref y, .int line, .int a.n, .int b.n, .unb, .unb] _ _ _
  clear L0 L1 L2
  have L0 : ∀ {C : CallT} {σ : AH}, Is C (.loc 0) [.str op, .ref x, .ref y, .int line, .int a.n, .int b.n, .unb, .unb] σ (.str op) := Is.loc rfl nofun
  have L4 : ∀ {C : CallT} {σ : AH}, Is C (.loc 4) [.str op, .ref x, .ref y, .int line, .int a.n, .int b.n, .unb, .unb] σ (.int a.n) := Is.loc rfl nofun
  have L5 : ∀ {C : CallT} {σ : AH}, Is C (.loc 5) [.str op, .ref x, .ref y, .int line, .int a.n, .int b.n, .unb, .unb] σ (.int b.n) := Is.loc rfl nofun
  refine seq_ite (Is.and (Is.inTup2 L0) fun _ => Is.eqI L5 Is.int) (fun g σ5 l5 => ?_) fun g σ5 l5 => ?_
  · have c : (op = [47] ∨ op = [37]) ∧ b.n = 0 := by
      simp only [List.any_cons, List.any_nil, Bool.or_false, Bool.and_eq_true, Bool.or_eq_true, beq_iff_eq, decide_eq_true_eq] at g
      exact ⟨g.1.imp Eq.symm Eq.symm, g.2⟩
    refine seq_fault (by nofun) (hE ?_ _ ((l13.trans l4).trans l5))
    unfold workS; rw [if_neg c1, if_neg c2, if_neg c3, if_pos c]
  have c4 : ¬ ((op = [47] ∨ op = [37]) ∧ b.n = 0) := by
    intro ⟨h1, h2⟩
    rcases h1 with rfl | rfl <;> simp [h2] at g
  refine seq_ite (Is.and (Is.inTup2 L0) fun _ => Is.not (Is.chain Is.int L5 Is.int)) (fun g σ6 l6 => ?_) fun g σ6 l6 => ?_
  · have c : (op = [60, 60] ∨ op = [62, 62]) ∧ ¬ (0 ≤ b.n ∧ b.n < 64) := by
      simp at g
      exact ⟨g.1.imp Eq.symm Eq.symm, fun h => by omega⟩
    refine seq_fault (by nofun) (hE ?_ _ (((l13.trans l4).trans l5).trans l6))
    unfold workS; rw [if_neg c1, if_neg c2, if_neg c3, if_neg c4, if_pos c]
  have c5 : ¬ ((op = [60, 60] ∨ op = [62, 62]) ∧ ¬ (0 ≤ b.n ∧ b.n < 64)) := by
    intro ⟨h1, h2⟩
    simp at g
    have := g (h1.imp Eq.symm Eq.symm)
    omega
  have hw : workS op a b = some ⟨[], [], numS op a.n b.n⟩ := by unfold workS; rw [if_neg c1, if_neg c2, if_neg c3, if_neg c4, if_neg c5]
  have l16 := ((l13.trans l4).trans l5).trans l6
  refine seq_ite (Is.eqS L0 Is.str) (fun g σ7 l7 => ?_) fun g σ7 l7 => ?_
  · have c : op = [47] := of_decide_eq_true g
    have hb : b.n ≠ 0 := fun h => c4 ⟨.inl c, h⟩
    refine seq_let (Is.fdiv (Is.abs L4) (Is.abs L5) (absI_ne hb) (bits_log fb)) nofun fun σ8 l8 => ?_
    refine seq_ret (P := fun v σ' => ∃ r, v = .ref r ∧ σ' r = some (.sum [] [] (numS op a.n b.n))) (Ev.mkSum Is.str Is.str (Is.ife (Is.eqB (Is.lt (Is.loc rfl nofun) Is.int) (Is.lt (Is.loc rfl nofun) Is.int)) (fun e => Is.loc (by subst c; simp only [beq_iff_eq] at e; simp only [numS, if_true, e]; rfl) nofun) fun e => Is.cong (Is.neg (p := (absI a.n).fdiv (absI b.n)) (Is.loc rfl nofun)) (by subst c; simp only [beq_iff_eq, beq_eq_false_iff_ne, ne_eq, decide_eq_true_eq, decide_eq_false_iff_not] at e; simp only [numS, if_true, if_false, e, show ¬ (([37] : List Nat) = [47]) by decide]))) ?_
    rintro v σ9 l9 ⟨r, rfl, hr⟩
    exact hQ _ r σ9 hw (((l16.trans l7).trans l8).trans l9) hr
  have d1 : op ≠ [47] := of_decide_eq_false g
  have l17 := l16.trans l7
  refine seq_ite (Is.eqS L0 Is.str) (fun g σ8 l8 => ?_) fun g σ8 l8 => ?_
  · have c : op = [37] := of_decide_eq_true g
    have hb : b.n ≠ 0 := fun h => c4 ⟨.inr c, h⟩
    refine seq_let (Is.mod (Is.abs L4) (Is.abs L5) (absI_ne hb)) nofun fun σ9 l9 => ?_
    refine seq_ret (P := fun v σ' => ∃ r, v = .ref r ∧ σ' r = some (.sum [] [] (numS op a.n b.n))) (Ev.mkSum Is.str Is.str (Is.ife (Is.lt (Is.loc rfl nofun) Is.int) (fun e => Is.cong (Is.neg (p := (absI a.n).fmod (absI b.n)) (Is.loc rfl nofun)) (by subst c; simp only [beq_iff_eq, beq_eq_false_iff_ne, ne_eq, decide_eq_true_eq, decide_eq_false_iff_not] at e; simp only [numS, if_true, if_false, e, show ¬ (([37] : List Nat) = [47]) by decide])) fun e => Is.loc (by subst c; simp only [beq_iff_eq, beq_eq_false_iff_ne, ne_eq, decide_eq_true_eq, decide_eq_false_iff_not] at e; simp only [numS, if_true, if_false, e, show ¬ (([37] : List Nat) = [47]) by decide]; rfl) nofun)) ?_
    rintro v σ10 l10 ⟨r, rfl, hr⟩
    exact hQ _ r σ10 hw (((l17.trans l8).trans l9).trans l10) hr
  have d2 : op ≠ [37] := of_decide_eq_false g
  have l18 := l17.trans l8
  refine seq_ite (Is.eqS L0 Is.str) (fun g σ9 l9 => ?_) fun g σ9 l9 => ?_
  · have c : op = [42] := of_decide_eq_true g
    refine seq_ret (Ev.mkSum Is.str Is.str (Is.mul L4 L5 (IntMulOk.of_le fa fb (by decide)))) ?_
    rintro v σ10 l10 ⟨r, rfl, hr⟩
    exact hQ _ r σ10 hw ((l18.trans l9).trans l10) (by rw [hr]; subst c; rfl)
  have d3 : op ≠ [42] := of_decide_eq_false g
  have l19 := l18.trans l9
  refine seq_ite (Is.eqS L0 Is.str) (fun g σ10 l10 => ?_) fun g σ10 l10 => ?_
  · have c : op = [60, 60] := of_decide_eq_true g
    have hb : 0 ≤ b.n ∧ b.n < 64 := Classical.byContradiction fun h => c5 ⟨.inl c, h⟩
    refine seq_ret (Ev.mkSum Is.str Is.str (Is.shl L4 L5 hb.1 fa hb.2)) ?_
    rintro v σ11 l11 ⟨r, rfl, hr⟩
    exact hQ _ r σ11 hw ((l19.trans l10).trans l11) (by rw [hr]; subst c; rfl)
  have d4 : op ≠ [60, 60] := of_decide_eq_false g
  have l110 := l19.trans l10
  refine seq_ite (Is.eqS L0 Is.str) (fun g σ11 l11 => ?_) fun g σ11 l11 => ?_
  · have c : op = [62, 62] := of_decide_eq_true g
    have hb : 0 ≤ b.n ∧ b.n < 64 := Classical.byContradiction fun h => c5 ⟨.inr c, h⟩
    refine seq_ret (Ev.mkSum Is.str Is.str (Is.shr L4 L5 hb.1)) ?_
    rintro v σ12 l12 ⟨r, rfl, hr⟩
    exact hQ _ r σ12 hw ((l110.trans l11).trans l12) (by rw [hr]; subst c; rfl)
  have d5 : op ≠ [62, 62] := of_decide_eq_false g
  have l111 := l110.trans l11
  refine seq_ite (Is.eqS L0 Is.str) (fun g σ12 l12 => ?_) fun g σ12 l12 => ?_
  · have c : op = [38] := of_decide_eq_true g
    refine seq_ret (Ev.mkSum Is.str Is.str (Is.band L4 L5)) ?_
    rintro v σ13 l13' ⟨r, rfl, hr⟩
    exact hQ _ r σ13 hw ((l111.trans l12).trans l13') (by rw [hr]; subst c; rfl)
  have d6 : op ≠ [38] := of_decide_eq_false g
  have l112 := l111.trans l12
  refine skip_next ?_
  refine seq_ret (P := fun v σ' => ∃ r, v = .ref r ∧ σ' r = some (.sum [] [] (numS op a.n b.n))) (Ev.mkSum Is.str Is.str (Is.ife (Is.eqS L0 Is.str) (fun e => Is.cong (Is.bor L4 L5) ?_) fun e => Is.cong (Is.bxor L4 L5) ?_)) ?_
  · have c : op = [124] := of_decide_eq_true e
    subst c; rfl
  · have c : op ≠ [124] := of_decide_eq_false e
    simp [numS, d1, d2, d3, d4, d5, d6, c]
  · rintro v σ13 l13' ⟨r, rfl, hr⟩
    exact hQ _ r σ13 hw (l112.trans l13') hr
end
end Nm
end

section
open PySem PySem.W PyProof.Rows
set_option tactic.hygienic false
set_option maxRecDepth 100000
set_option maxHeartbeats 2000000
set_option linter.unusedVariables false
set_option linter.unusedSimpArgs false
namespace Nm

/-! sizes -/
noncomputable def wt (x : Sm) : Nat := Builtin.Int.intBits x.n
theorem abs_bits {i : Int} {m : Nat} (h : Builtin.Int.intBits i ≤ m) : Builtin.Int.intBits (absI i) ≤ m := intBits_le_of_natAbs (by rw [natAbs_abs]; omega) h
theorem two_bits {j : Int} (h : j < 64) : Builtin.Int.intBits ((2 : Int) ^ j.toNat) ≤ 64 := by
  refine intBits_le_iff.mpr ?_
  rw [Int.natAbs_pow]
  exact Nat.pow_lt_pow_right (by decide) (by omega)
theorem nought_bits : Builtin.Int.intBits 0 = 0 := by decide
theorem num_bits {m : List Nat} {a b : Int} (h : (m = [60, 60] ∨ m = [62, 62]) → b < 64) : Builtin.Int.intBits (numS m a b) ≤ Builtin.Int.intBits a + Builtin.Int.intBits b + 66 := by
  have ha : Builtin.Int.intBits a ≤ Builtin.Int.intBits a + Builtin.Int.intBits b := Nat.le_add_right _ _
  have hb : Builtin.Int.intBits b ≤ Builtin.Int.intBits a + Builtin.Int.intBits b := Nat.le_add_left _ _
  generalize hk : Builtin.Int.intBits a + Builtin.Int.intBits b = k at *
  unfold numS
  have hd := intBits_fdiv_le (y := absI b) (abs_bits ha)
  have hm := intBits_fmod_le (abs_bits ha) (abs_bits hb)
  rw [Nat.max_self] at hm
  split
  · split
    · omega
    · exact Nat.le_trans (intBits_neg_le hd) (by omega)
  split
  · split
    · exact Nat.le_trans (intBits_neg_le hm) (by omega)
    · omega
  split
  · exact Nat.le_trans (intBits_mul_le (Nat.le_refl _) (Nat.le_refl _)) (by omega)
  split
  · rename_i e
    exact Nat.le_trans (intBits_mul_le ha (two_bits (h (.inl e)))) (by omega)
  split
  · exact Nat.le_trans (intBits_fdiv_le ha) (by omega)
  split
  · exact Nat.le_trans (band_bits ha hb) (by omega)
  split
  · exact Nat.le_trans (bor_bits ha hb) (by omega)
  · exact Nat.le_trans (bxor_bits ha hb) (by omega)
theorem cancel_n (s : Sm) : (cancelS s).n = s.n := by unfold cancelS; split <;> rfl
theorem work_bits {op : List Nat} {a b c : Sm} (h : workS op a b = some c) : wt c ≤ wt a + wt b + 66 := by
  unfold workS at h
  unfold wt
  split at h
  · cases h
    rw [cancel_n]
    exact Nat.le_trans (intBits_add_le (Nat.le_refl _) (Nat.le_refl _)) (by omega)
  split at h
  · cases h
    rw [cancel_n]
    exact Nat.le_trans (intBits_sub_le (Nat.le_refl _) (Nat.le_refl _)) (by omega)
  split at h
  · cases h
  split at h
  · cases h
  split at h
  · cases h
  · rename_i h5
    cases h
    exact num_bits fun e => Classical.byContradiction fun q => h5 ⟨e, fun x => q x.2⟩
theorem cancel_sml {s : Sm} (h : Sml s) : Sml (cancelS s) := by
  unfold cancelS; split
  · exact ⟨by simp, by simp⟩
  · exact h
theorem orT_len {a b : List Nat} {n : Nat} (h : a.length ≤ n) (h' : b.length ≤ n) : (orT a b).length ≤ n := by unfold orT; split <;> assumption
theorem work_sml {op : List Nat} {a b c : Sm} (ha : Sml a) (hb : Sml b) (h : workS op a b = some c) : Sml c := by
  unfold workS at h
  split at h
  · cases h; exact cancel_sml ⟨orT_len ha.1 hb.1, orT_len ha.2 hb.2⟩
  split at h
  · cases h; exact cancel_sml ⟨orT_len ha.1 hb.2, orT_len ha.2 hb.1⟩
  split at h
  · cases h
  split at h
  · cases h
  split at h
  · cases h
  · cases h; exact ⟨by simp, by simp⟩

noncomputable def uMARKS : List (List Nat) := [[117, 43], [117, 45], [117, 126]]
/-- the stacks are as a reduction needs them -/
structure Inv (gs : List (List Nat)) (s : List Sm) (k : Nat) : Prop where
  ok : ∀ g ∈ gs, g ∈ pMARKS ∨ g = [40] ∨ g ∈ uMARKS
  cnt : s.length = (gs.filter (pMARKS.contains ·)).length + k
  sml : ∀ x ∈ s, Sml x
noncomputable def pot (gs : List (List Nat)) (s : List Sm) : Nat := (s.map wt).sum + 70 * gs.length
theorem u_facts : ∀ g ∈ uMARKS, pMARKS.contains g = false ∧ g ≠ [40] := by decide +kernel
theorem p_facts : ∀ g ∈ pMARKS, pMARKS.contains g = true ∧ g ≠ [40] ∧ g ∉ uMARKS := by decide +kernel
theorem zero_sml : Sml ⟨[], [], 0⟩ := ⟨by simp, by simp⟩
theorem m1_sml : Sml ⟨[], [], -1⟩ := ⟨by simp, by simp⟩
set_option tactic.hygienic true in
theorem ap_inv {g : List Nat} {gs : List (List Nat)} {s s' : List Sm} (h : Inv (g :: gs) s 1) (hg : g ≠ [40]) (e : apS g s = some s') : Inv gs s' 1 ∧ pot gs s' ≤ pot (g :: gs) s := by
  obtain ⟨h1, h2, h3⟩ := h
  have hr : ∀ x ∈ gs, x ∈ pMARKS ∨ x = [40] ∨ x ∈ uMARKS := fun x m => h1 x (by simp [m])
  unfold apS at e
  split at e
  · cases e
  rename_i o s
  have so := h3 o (by simp)
  have ss : ∀ x ∈ s, Sml x := fun x m => h3 x (by simp [m])
  rcases h1 g (by simp) with hp | hp | hp
  · obtain ⟨p1, p2, p3⟩ := p_facts g hp
    have n1 : g ≠ [117, 43] := fun x => p3 (by rw [x]; decide)
    have n2 : g ≠ [117, 45] := fun x => p3 (by rw [x]; decide)
    have n3 : g ≠ [117, 126] := fun x => p3 (by rw [x]; decide)
    rw [if_neg n1, if_neg n2, if_neg n3] at e
    split at e
    · cases e
    rename_i a s
    cases hw : workS g a o with
    | none => rw [hw] at e; cases e
    | some c =>
      rw [hw] at e; cases e
      have wb := work_bits hw
      refine ⟨⟨hr, ?_, ?_⟩, ?_⟩
      · simp only [List.filter_cons, p1, if_true, List.length_cons] at h2 ⊢; omega
      · intro x m
        rcases List.mem_cons.mp m with rfl | m
        · exact work_sml (ss a (by simp)) so hw
        · exact ss x (by simp [m])
      · simp only [pot, List.map_cons, List.sum_cons, List.length_cons]; omega
  · exact (hg hp).elim
  · obtain ⟨p1, p2⟩ := u_facts g hp
    have h2' : s.length + 1 = (gs.filter (pMARKS.contains ·)).length + 1 := by
      rw [List.filter_cons, p1] at h2
      exact h2
    have one : ∀ c : Sm, Sml c → wt c ≤ wt o + 70 → Inv gs (c :: s) 1 ∧ pot gs (c :: s) ≤ pot (g :: gs) (o :: s) := fun c hc hw => by
      refine ⟨⟨hr, h2', ?_⟩, ?_⟩
      · intro x m
        rcases List.mem_cons.mp m with rfl | m
        · exact hc
        · exact ss x m
      · simp only [pot, List.map_cons, List.sum_cons, List.length_cons]; omega
    split at e
    · cases e; exact one o so (by omega)
    split at e
    · cases hw : workS [45] ⟨[], [], 0⟩ o with
      | none => rw [hw] at e; cases e
      | some c =>
        rw [hw] at e; cases e
        have wb := work_bits hw
        have z : wt ⟨[], [], 0⟩ = 0 := by decide
        exact one c (work_sml zero_sml so hw) (by omega)
    split at e
    · cases hw : workS [94] ⟨[], [], -1⟩ o with
      | none => rw [hw] at e; cases e
      | some c =>
        rw [hw] at e; cases e
        have wb := work_bits hw
        have z : wt ⟨[], [], -1⟩ = 1 := by decide
        exact one c (work_sml m1_sml so hw) (by omega)
    · rename_i q1 q2 q3
      simp only [uMARKS, List.mem_cons, List.not_mem_nil, or_false] at hp
      rcases hp with h | h | h
      · exact (q1 h).elim
      · exact (q2 h).elim
      · exact (q3 h).elim
theorem hot_ne {lv : Int} {g : List Nat} (h : hot lv g = true) : g ≠ [40] := by
  intro e; subst e; simp [hot] at h
theorem red_inv {lv : Int} : ∀ {gs gs' : List (List Nat)} {s s' : List Sm}, Inv gs s 1 → redS lv gs s = some (gs', s') → Inv gs' s' 1 ∧ pot gs' s' ≤ pot gs s
  | [], gs', s, s', h, e => by cases e; exact ⟨h, Nat.le_refl _⟩
  | g :: gs, gs', s, s', h, e => by
    unfold redS at e
    split at e
    · rename_i hh
      cases ha : apS g s with
      | none => rw [ha] at e; cases e
      | some u =>
        rw [ha] at e
        have a := ap_inv h (hot_ne hh) ha
        have b := red_inv a.1 e
        exact ⟨b.1, Nat.le_trans b.2 a.2⟩
    · cases e; exact ⟨h, Nat.le_refl _⟩
end Nm
end

section
open PySem PySem.W PyProof.Rows
set_option tactic.hygienic false
set_option maxRecDepth 100000
set_option maxHeartbeats 2000000
set_option linter.unusedVariables false
set_option linter.unusedSimpArgs false
namespace Nm

/-- sums lie at these places -/
inductive AllSum (σ : AH) : List Nat → List Sm → Prop where
  | nil : AllSum σ [] []
  | cons {r : Nat} {x : Sm} {rs : List Nat} {xs : List Sm} : σ r = some (.sum x.p x.m x.n) → AllSum σ rs xs → AllSum σ (r :: rs) (x :: xs)
theorem AllSum.length {σ : AH} {rs : List Nat} {xs : List Sm} (h : AllSum σ rs xs) : rs.length = xs.length := by
  induction h with
  | nil => rfl
  | cons _ _ ih => simp [ih]
theorem AllSum.mono {l : List Nat} {σ σ' : AH} {rs : List Nat} {xs : List Sm} (h : AllSum σ rs xs) (k : Kp l σ σ') (n : ∀ a ∈ l, ∀ x : Sm, σ a ≠ some (.sum x.p x.m x.n)) : AllSum σ' rs xs := by
  induction h with
  | nil => exact .nil
  | cons e _ ih => exact .cons (k _ _ (fun m => n _ m _ e) e) ih
/-- a stack of sums, top first -/
noncomputable def Sums (σ : AH) (a : Nat) (s : List Sm) : Prop := ∃ rs : List Nat, σ a = some (.list (rs.reverse.map .ref)) ∧ AllSum σ rs s
noncomputable def Signs (σ : AH) (b : Nat) (gs : List (List Nat)) : Prop := σ b = some (.list (gs.reverse.map .str))

section
variable {C : CallT} {a b : AE} {ρ : List AV} {σ : AH} {E : AH → Prop}
theorem rd_strs {σ : AH} : ∀ gs : List (List Nat), RdAll σ (gs.map .str) (gs.map fun g => .str ⟨g.toArray⟩)
  | [] => .nil
  | g :: gs => .cons (.str g) (rd_strs gs)
theorem sign_ok : ∀ g, g ∈ pMARKS ∨ g = [40] ∨ g ∈ uMARKS → ∀ c ∈ g, c < 128 := by
  intro g h
  rcases h with h | rfl | h
  · revert g; decide +kernel
  · decide
  · revert g; decide +kernel
theorem canLay_strs : ∀ gs : List (List Nat), (∀ g ∈ gs, ∀ c ∈ g, c < 128) → PyData.canLayAll0 (gs.map fun g => .str ⟨g.toArray⟩) = true
  | [], _ => rfl
  | g :: gs, h => by
    simp only [List.map_cons, PyData.canLayAll0, PyData.canLay0, Bool.and_eq_true]
    refine ⟨?_, canLay_strs gs fun x m => h x (by simp [m])⟩
    unfold PyData.strOk
    rw [Array.all_eq_true']
    intro x m
    have := h g (by simp) x (by simpa using m)
    simp; omega
theorem depth_strs : ∀ gs : List (List Nat), PyData.depthAll (gs.map fun g => .str ⟨g.toArray⟩) = 0
  | [] => rfl
  | g :: gs => by simp only [List.map_cons, PyData.depthAll, PyData.depth, depth_strs gs]; rfl
theorem shaped_strs {gs : List (List Nat)} (h : ∀ g ∈ gs, ∀ c ∈ g, c < 128) : SeqAt.shaped (.list (gs.map fun g => .str ⟨g.toArray⟩)) = true := by
  unfold SeqAt.shaped
  simp only [PyData.canLay0, canLay_strs gs h, PyData.depth, depth_strs]
  decide
theorem eqv_nil (ds : List PyData) : PyData.eqv (.list ds) (.list []) = ds.isEmpty := by
  cases ds <;> simp [PyData.eqv, PyData.eqvAll]
/-- is the list of signs not empty? -/
theorem Is.signsNe {t : Nat} {gs : List (List Nat)} (h : Is C a ρ σ (.ref t)) (hs : Signs σ t gs) (ok : ∀ g ∈ gs, g ∈ pMARKS ∨ g = [40] ∨ g ∈ uMARKS) : Is C (.cmp .ne a .lst0) ρ σ (.bool (!gs.isEmpty)) := fun σ₀ l K E k => by
  refine h σ₀ l _ E fun v σ' l' e => ?_
  subst e
  show newO σ' (.list []) _
  refine new fun c σ'' _ hc l'' => ?_
  have hs' : σ'' t = some (.list (gs.reverse.map .str)) := ((l.trans l').trans l'').get hs
  refine ⟨_, _, .list hs' (rd_strs _), .list hc .nil, shaped_strs fun g m => sign_ok g (ok g (by simpa using m)), by decide, ?_⟩
  rw [eqv_nil]
  refine k _ _ (l'.trans l'') ?_
  cases gs with
  | nil => rfl
  | cons g gs => simp
theorem Is.signsEq {t : Nat} {gs : List (List Nat)} (h : Is C a ρ σ (.ref t)) (hs : Signs σ t gs) (ok : ∀ g ∈ gs, g ∈ pMARKS ∨ g = [40] ∨ g ∈ uMARKS) : Is C (.cmp .eq a .lst0) ρ σ (.bool gs.isEmpty) := fun σ₀ l K E k => by
  refine h σ₀ l _ E fun v σ' l' e => ?_
  subst e
  show newO σ' (.list []) _
  refine new fun c σ'' _ hc l'' => ?_
  have hs' : σ'' t = some (.list (gs.reverse.map .str)) := ((l.trans l').trans l'').get hs
  refine ⟨_, _, .list hs' (rd_strs _), .list hc .nil, shaped_strs fun g m => sign_ok g (ok g (by simpa using m)), by decide, ?_⟩
  rw [eqv_nil]
  refine k _ _ (l'.trans l'') ?_
  cases gs with
  | nil => rfl
  | cons g gs => simp
theorem Is.top {t : Nat} {g : List Nat} {gs : List (List Nat)} (h : Is C a ρ σ (.ref t)) (hs : Signs σ t (g :: gs)) : Is C (.idx a (.neg (.int 1))) ρ σ (.str g) :=
  h.ofIdx (Is.neg Is.int) fun σ' K l k => idx_last (l := gs.reverse.map .str) (by have := l.get hs; simpa using this) k
theorem lev_some : ∀ g ∈ pMARKS, pLEV.lookup g = some (lev g) := by decide +kernel
/-- the loop's question -/
theorem hot_ok {lv : Int} {t : Nat} {gs : List (List Nat)} {o4 o5 a' : AV} {line : Int} (hs : Signs σ t gs) (ok : ∀ g ∈ gs, g ∈ pMARKS ∨ g = [40] ∨ g ∈ uMARKS) (hL : σ aLEVELS = some (.dict pLEV)) :
    Is C (.and (.cmp .ne (.loc 1) .lst0) (.and (.cmp .ne (.idx (.loc 1) (.neg (.int 1))) (.str [40])) (.or (.cmp .eq (.idx (.idx (.loc 1) (.neg (.int 1))) (.int 0)) (.str [117])) (.cmp .ge (.idx (.gv 4) (.idx (.loc 1) (.neg (.int 1)))) (.loc 2)))))
      [a', .ref t, .int lv, .int line, o4, o5] σ (.bool (match gs with | [] => false | g :: _ => hot lv g)) := by
  have L1 : ∀ {σ : AH}, Is C (.loc 1) [a', .ref t, .int lv, .int line, o4, o5] σ (.ref t) := Is.loc rfl nofun
  cases gs with
  | nil => exact Is.cong (Is.and (q := true) (Is.signsNe L1 hs ok) fun e => by cases e) rfl
  | cons g gs =>
    have hm := ok g (by simp)
    refine Is.cong (Is.and (Is.signsNe L1 hs ok) fun _ => Is.and (q := g.head? == some 117 || decide (lv ≤ lev g)) (Is.neS (Is.top L1 hs) Is.str) fun e => ?_) ?_
    · have hne : g ≠ [40] := of_decide_eq_false (not1 e)
      obtain ⟨c, cs, rfl⟩ : ∃ c cs, g = c :: cs := by
        cases g with
        | nil => exact absurd hm (by decide)
        | cons c cs => exact ⟨c, cs, rfl⟩
      refine Is.cong (Is.or (Is.eqS (Is.idxS (Is.top L1 hs) Is.int (by decide) (by decide) rfl) Is.str) fun e2 => Is.ge (p := lev (c :: cs)) ?_ (Is.loc rfl nofun)) ?_
      · have hp : (c :: cs) ∈ pMARKS := by
          rcases hm with h | h | h
          · exact h
          · exact (hne h).elim
          · simp only [uMARKS, List.mem_cons, List.not_mem_nil, or_false] at h
            rcases h with h | h | h <;> (cases h; simp at e2)
        exact Is.idxD Is.gv (Is.top L1 hs) hL (lev_some _ hp)
      · simp only [List.head?_cons]
        congr 2
        by_cases h : c = 117 <;> simp [h]
    · simp only [hot, List.isEmpty_cons, Bool.not_false, Bool.true_and]
      congr 2
      cases h : decide (g = [40]) <;> simp_all
end
end Nm
end

section
open PySem PySem.W PyProof.Rows
set_option tactic.hygienic false
set_option maxRecDepth 100000
set_option maxHeartbeats 2000000
set_option linter.unusedVariables false
set_option linter.unusedSimpArgs false
namespace Nm

section
variable {C : CallT} {a b : AE} {ρ : List AV} {σ : AH} {E : AH → Prop} {Q : VQ}
theorem ltBig {n : Nat} (h : n ≤ 1000000) : n < big := Nat.lt_of_le_of_lt h (by decide)
theorem pop_ok {t : Nat} {xs : List AV} {x : AV} (h : σ t = some (.list (xs ++ [x]))) (hl : xs.length ≤ 1000000) (k : Q x (σ.set t (.list xs))) : m0V .pop (.ref t) σ Q :=
  ⟨t, xs, x, rfl, h, ltBig hl, k⟩
theorem app_ok {t : Nat} {xs : List AV} {v : AV} (h : σ t = some (.list xs)) (hl : xs.length ≤ 1000000) (hv : v ≠ .unb) (k : Q .none (σ.set t (.list (xs ++ [v])))) : m1V .lapp (.ref t) v σ Q :=
  ⟨t, xs, rfl, hv, h, ltBig hl, k⟩
theorem seq_pop {C : CallT} {ρ : List AV} {u : AS} {Q : SQ} {i j t : Nat} {xs : List AV} {x : AV} (hj : ρ.getD j .unb = .ref t) (h : σ t = some (.list (xs ++ [x]))) (hl : xs.length ≤ 1000000) (hx : x ≠ .unb) (k : swp C u (ρ.set i x) (σ.set t (.list xs)) Q E) :
    swp C (.seq (.asg i (.m0 .pop (.loc j))) u) ρ σ Q E := by
  show ρ.getD j .unb ≠ .unb ∧ m0V .pop (ρ.getD j .unb) σ (fun v σ₁ => v ≠ .unb ∧ swp C u (ρ.set i v) σ₁ Q E)
  rw [hj]
  exact ⟨nofun, pop_ok h hl ⟨hx, k⟩⟩
theorem seq_app {C : CallT} {ρ : List AV} {u : AS} {Q : SQ} {e : AE} {j t : Nat} {xs : List AV} (hj : ρ.getD j .unb = .ref t) (h : σ t = some (.list xs)) (k : ewp C e ρ σ (fun v σ₂ => m1V .lapp (.ref t) v σ₂ (fun _ σ₁ => swp C u ρ σ₁ Q E)) E) :
    swp C (.seq (.expr (.m1 .append (.loc j) e)) u) ρ σ Q E := by
  show ρ.getD j .unb ≠ .unb ∧ ∃ q, m1K .append (ρ.getD j .unb) σ q ∧ ewp C e ρ σ (fun y σ₂ => m1V q (ρ.getD j .unb) y σ₂ (fun _ σ₁ => swp C u ρ σ₁ Q E)) E
  rw [hj]
  exact ⟨nofun, .lapp, ⟨rfl, t, xs, rfl, h⟩, k⟩
theorem seq_app4 {C : CallT} {ρ : List AV} {u : AS} {Q : SQ} {e1 e2 e3 e4 : AE} {f j t : Nat} {xs : List AV} (hj : ρ.getD j .unb = .ref t) (h : σ t = some (.list xs))
    (k : ewp C e1 ρ σ (fun x σ₁ => ewp C e2 ρ σ₁ (fun y σ₂ => ewp C e3 ρ σ₂ (fun z σ₃ => ewp C e4 ρ σ₃ (fun v σ₄ => C f [x, y, z, v] σ₄ (fun v σ₂ => m1V .lapp (.ref t) v σ₂ (fun _ σ₁ => swp C u ρ σ₁ Q E)) E) E) E) E) E) :
    swp C (.seq (.expr (.m1 .append (.loc j) (.call4 f e1 e2 e3 e4))) u) ρ σ Q E := seq_app hj h k
theorem wt_le {s : List Sm} {x : Sm} {gs : List (List Nat)} (h : x ∈ s) : wt x ≤ pot gs s := by
  unfold pot
  induction s with
  | nil => cases h
  | cons y s ih =>
    simp only [List.map_cons, List.sum_cons]
    rcases List.mem_cons.mp h with rfl | h
    · omega
    · have := ih h; omega
noncomputable def redC : AE := .and (.cmp .ne (.loc 1) .lst0) (.and (.cmp .ne (.idx (.loc 1) (.neg (.int 1))) (.str [40])) (.or (.cmp .eq (.idx (.idx (.loc 1) (.neg (.int 1))) (.int 0)) (.str [117])) (.cmp .ge (.idx (.gv 4) (.idx (.loc 1) (.neg (.int 1)))) (.loc 2))))
noncomputable def redBody : AS := .seq (.asg 4 (.m0 .pop (.loc 1)))
        (.seq (.asg 5 (.m0 .pop (.loc 0)))
        (.seq (.ite (.cmp .eq (.loc 4) (.str [117, 43]))
          (.seq (.expr (.m1 .append (.loc 0) (.loc 5)))
            .skip)
          (.seq (.ite (.cmp .eq (.loc 4) (.str [117, 45]))
              (.seq (.expr (.m1 .append (.loc 0) (.call4 6 (.str [45]) (.mk 0 (.str []) (.str []) (.int 0)) (.loc 5) (.loc 3))))
                .skip)
              (.seq (.ite (.cmp .eq (.loc 4) (.str [117, 126]))
                  (.seq (.expr (.m1 .append (.loc 0) (.call4 6 (.str [94]) (.mk 0 (.str []) (.str []) (.neg (.int 1))) (.loc 5) (.loc 3))))
                    .skip)
                  (.seq (.expr (.m1 .append (.loc 0) (.call4 6 (.loc 4) (.m0 .pop (.loc 0)) (.loc 5) (.loc 3))))
                    .skip))
                .skip))
            .skip))
        .skip))
/-- the loop of reduced -/
noncomputable def redW (n : Nat) (E : AH → Prop) (Q : SQ) (k : Nat) (ρ : List AV) (σ : AH) : Prop := whileN (fun ρ σ q => ewp (cwp theProg (n + 2)) redC ρ σ q E) (fun ρ σ q => swp (cwp theProg (n + 2)) redBody ρ σ q E) Q k ρ σ
theorem red_loop {n a b : Nat} {lv line : Int} {Q : SQ} (hab : a ≠ b) : ∀ (gs : List (List Nat)) (s : List Sm) (σ : AH) (o4 o5 : AV), Inv gs s 1 → pot gs s ≤ 7000 → Sums σ a s → Signs σ b gs → σ aLEVELS = some (.dict pLEV) → gs.length ≤ 1000 →
    (∀ gs' s' σ' o4' o5', redS lv gs s = some (gs', s') → Kp [a, b] σ σ' → Sums σ' a s' → Signs σ' b gs' → Q .next [.ref a, .ref b, .int lv, .int line, o4', o5'] σ') →
    (redS lv gs s = none → ∀ σ', Kp [a, b] σ σ' → E σ') →
    redW n E Q (gs.length + 1) [.ref a, .ref b, .int lv, .int line, o4, o5] σ := by
  intro gs
  induction gs with
  | nil =>
    intro s σ o4 o5 inv hp hs hg hL hl hQ hE
    refine Is.go (hot_ok hg inv.ok hL) fun σ' l => ?_
    obtain ⟨rs, h1, h2⟩ := hs
    exact hQ [] s σ' o4 o5 rfl l.of ⟨rs, l.get h1, h2.mono l (by first | exact fun _ m => (List.not_mem_nil m).elim | simp)⟩ (l.get hg)
  | cons g gs ih =>
    intro s σ o4 o5 inv hp hs hg hL hl hQ hE
    refine Is.go (hot_ok hg inv.ok hL) fun σ1 l => ?_
    obtain ⟨rs, h1, h2⟩ := hs
    have h1 := l.get h1
    have h2 := h2.mono l (by first | exact fun _ m => (List.not_mem_nil m).elim | simp)
    have hL0 := hL
    have hg : σ1 b = some (.list ((g :: gs).reverse.map .str)) := l.get hg
    have hL := l.get hL
    by_cases hh : hot lv g
    case neg =>
      show (if hot lv g = true then _ else _)
      rw [if_neg hh]
      exact hQ (g :: gs) s σ1 o4 o5 (by unfold redS; rw [if_neg hh]) l.of ⟨rs, h1, h2⟩ hg
    show (if hot lv g = true then _ else _)
    rw [if_pos hh]
    have hred : redS lv (g :: gs) s = (apS g s).bind (redS lv gs) := by rw [redS, if_pos hh]
    cases h2 with
    | nil => have := inv.cnt; simp at this
    | @cons r o rs s hr h3 =>
    have hal : ¬ aLEVELS ∈ [a, b] := by
      intro m
      simp only [List.mem_cons, List.not_mem_nil, or_false] at m
      rcases m with m | m
      · rw [← m, hL] at h1; cases h1
      · rw [← m, hL] at hg; cases hg
    have hns : ∀ c ∈ [a, b], ∀ x : Sm, σ1 c ≠ some (.sum x.p x.m x.n) := by
      intro c m x e
      simp only [List.mem_cons, List.not_mem_nil, or_false] at m
      rcases m with rfl | rfl
      · rw [h1] at e; cases e
      · rw [hg] at e; cases e
    -- the common end
    have fin : ∀ (c : Sm) (s'' : List Sm) (rs'' : List Nat) (r' : Nat) (σ3 : AH) (p4 p5 : AV), apS g (o :: s) = some (c :: s'') → Kp [a, b] σ σ3 → σ3 a = some (.list (rs''.reverse.map .ref)) → AllSum σ3 rs'' s'' → σ3 r' = some (.sum c.p c.m c.n) → Signs σ3 b gs →
        (redW n E Q (gs.length + 1) [.ref a, .ref b, .int lv, .int line, p4, p5] (σ3.set a (.list (rs''.reverse.map .ref ++ [.ref r'])))) := fun c s'' rs'' r' σ3 p4 p5 e k ha hs hr hb => by
      have hne : r' ≠ a := fun x => by rw [x, ha] at hr; cases hr
      have k4 : Kp [a] σ3 (σ3.set a (.list (rs''.reverse.map .ref ++ [.ref r']))) := Kp.set _ (by first | exact .head _ | exact .tail _ (.head _) | simp)
      have k4' : Kp [a, b] σ3 (σ3.set a (.list (rs''.reverse.map .ref ++ [.ref r']))) := Kp.set _ (by first | exact .head _ | exact .tail _ (.head _) | simp)
      have hn3 : ∀ c ∈ [a], ∀ x : Sm, σ3 c ≠ some (.sum x.p x.m x.n) := by
        intro c m x e
        simp only [List.mem_cons, List.not_mem_nil, or_false] at m
        subst m
        rw [ha] at e; cases e
      have ai := ap_inv inv (hot_ne hh) e
      refine ih (c :: s'') _ p4 p5 ai.1 (Nat.le_trans ai.2 hp) ⟨r' :: rs'', ?_, .cons (k4 _ _ (by simpa using hne) hr) (hs.mono k4 hn3)⟩ (k4 _ _ (by simpa using Ne.symm hab) hb) (k4' _ _ hal (k _ _ hal hL0)) (by simp at hl; omega) ?_ ?_
      · rw [AH.set_same]; simp
      · exact fun gs' s' σ' q4 q5 e' k' => hQ gs' s' σ' q4 q5 (by rw [hred, e]; exact e') ((k.trans k4').trans k')
      · exact fun e' σ' k' => hE (by rw [hred, e]; exact e') σ' ((k.trans k4').trans k')
    have hsl : s.length ≤ 1000 := by
      have h := inv.cnt
      have h' : ((g :: gs).filter (pMARKS.contains ·)).length ≤ (g :: gs).length := List.length_filter_le _ _
      simp only [List.length_cons] at h h' hl
      omega
    have hrl : rs.length ≤ 1000 := by rw [h3.length]; exact hsl
    have wo : wt o ≤ 7000 := Nat.le_trans (wt_le (gs := g :: gs) (by simp)) hp
    have so := inv.sml o (by simp)
    refine seq_pop (t := b) (xs := gs.reverse.map .str) (x := .str g) rfl (by rw [hg]; simp) (by simp at hl ⊢; omega) nofun ?_
    refine seq_pop (t := a) (xs := rs.reverse.map .ref) (x := .ref r) rfl (by rw [AH.set_ne _ _ hab, h1]; simp) (by simp; omega) nofun ?_
    generalize hσ2 : (σ1.set b (.list (gs.reverse.map .str))).set a (.list (rs.reverse.map .ref)) = σ2
    have k2 : Kp [a, b] σ1 σ2 := by rw [← hσ2]; exact (Kp.set _ (by first | exact .head _ | exact .tail _ (.head _) | simp)).trans (Kp.set _ (by first | exact .head _ | exact .tail _ (.head _) | simp))
    have a2 : σ2 a = some (.list (rs.reverse.map .ref)) := by rw [← hσ2, AH.set_same]
    have b2 : σ2 b = some (.list (gs.reverse.map .str)) := by rw [← hσ2, AH.set_ne _ _ (Ne.symm hab), AH.set_same]
    have s2 : AllSum σ2 rs s := h3.mono k2 hns
    have hra : ∀ c ∈ [a, b], r ≠ c := by
      intro c m x
      subst x
      exact hns _ m o hr
    have r2 : σ2 r = some (.sum o.p o.m o.n) := k2 _ _ (fun m => hra r m rfl) hr
    have kk : Kp [a, b] σ σ2 := l.of.trans k2
    show swp _ _ [.ref a, .ref b, .int lv, .int line, .str g, .ref r] σ2 _ E
    have L4 : ∀ {C : CallT} {σ : AH}, Is C (.loc 4) [.ref a, .ref b, .int lv, .int line, .str g, .ref r] σ (.str g) := Is.loc rfl nofun
    have L5 : ∀ {C : CallT} {σ : AH}, Is C (.loc 5) [.ref a, .ref b, .int lv, .int line, .str g, .ref r] σ (.ref r) := Is.loc rfl nofun
    refine seq_ite (Is.eqS L4 Is.str) (fun e σ3 l3 => ?_) fun e σ3 l3 => ?_
    · have c : g = [117, 43] := of_decide_eq_true e
      refine seq_app (t := a) rfl (l3.get a2) ?_
      refine Is.go L5 fun σ4 l4 => ?_
      have l34 := l3.trans l4
      refine app_ok (l34.get a2) (by simp; omega) nofun ?_
      exact fin o s rs r σ4 _ _ (by subst c; rfl) (kk.trans l34.of) (l34.get a2) (s2.mono l34 (by first | exact fun _ m => (List.not_mem_nil m).elim | simp)) (l34.get r2) (l34.get b2)
    have c1 : g ≠ [117, 43] := of_decide_eq_false e
    have hE' : apS g (o :: s) = none → ∀ σ', Kp [a, b] σ σ' → E σ' := fun e σ' k => hE (by rw [hred, e]; rfl) σ' k
    have un : ∀ (op : List Nat) (z : Int) (e0 : AE) (R : SQ) (σ3 : AH), op ∈ pMARKS → (∀ σ, Is (cwp theProg (n + 2)) e0 [.ref a, .ref b, .int lv, .int line, .str g, .ref r] σ (.int z)) → Sml ⟨[], [], z⟩ → Builtin.Int.intBits z ≤ 8000 → apS g (o :: s) = (workS op ⟨[], [], z⟩ o).map (· :: s) → Al σ2 σ3 →
        (∀ σ', redW n E Q (gs.length + 1) [.ref a, .ref b, .int lv, .int line, .str g, .ref r] σ' → R .next [.ref a, .ref b, .int lv, .int line, .str g, .ref r] σ') →
        swp (cwp theProg (n + 2)) (.seq (.expr (.m1 .append (.loc 0) (.call4 6 (.str op) (.mk 0 (.str []) (.str []) e0) (.loc 5) (.loc 3)))) .skip) [.ref a, .ref b, .int lv, .int line, .str g, .ref r] σ3 R E := fun op z e0 R σ3 hop hz sz bz hap l3 hR => by
      refine seq_app4 (t := a) rfl (l3.get a2) ?_
      refine Is.go Is.str fun σ5 l5 => ?_
      refine (Ev.mkSum Is.str Is.str (hz _)).run ?_
      rintro _ σ6 l6 ⟨q, rfl, hq⟩
      refine Is.go L5 fun σ7 l7 => ?_
      refine Is.go (Is.loc (x := .int line) rfl nofun) fun σ8 l8 => ?_
      have l78 := l7.trans l8
      have l28 := ((l3.trans l5).trans l6).trans l78
      refine worked_ok (a := ⟨[], [], z⟩) (b := o) hop (l78.get hq) (l28.get r2) sz bz (by unfold wt at wo; omega) ?_ ?_
      · intro d r' σ9 hw l9 hd
        have l29 := l28.trans l9
        refine app_ok (l29.get a2) (by simp; omega) nofun (hR _ ?_)
        exact fin d s rs r' σ9 _ _ (by rw [hap, hw]; rfl) (kk.trans l29.of) (l29.get a2) (s2.mono l29 (by first | exact fun _ m => (List.not_mem_nil m).elim | simp)) hd (l29.get b2)
      · exact fun e9 σ9 l9 => hE' (by rw [hap, e9]; rfl) _ (kk.trans (l28.trans l9).of)
    refine seq_ite (Is.eqS L4 Is.str) (fun e σ4 l4 => ?_) fun e σ4 l4 => ?_
    · have c : g = [117, 45] := of_decide_eq_true e
      exact un _ _ _ _ _ (by decide) (fun _ => Is.int) zero_sml (by decide) (by subst c; rfl) (l3.trans l4) fun _ h => h
    have c2 : g ≠ [117, 45] := of_decide_eq_false e
    refine seq_ite (Is.eqS L4 Is.str) (fun e σ5 l5 => ?_) fun e σ5 l5 => ?_
    · have c : g = [117, 126] := of_decide_eq_true e
      exact un _ _ _ _ _ (by decide) (fun _ => Is.neg Is.int) m1_sml (by decide) (by subst c; rfl) ((l3.trans l4).trans l5) fun _ h => h
    have c3 : g ≠ [117, 126] := of_decide_eq_false e
    have hgp : g ∈ pMARKS := by
      rcases inv.ok g (by simp) with h | h | h
      · exact h
      · exact (hot_ne hh h).elim
      · simp only [uMARKS, List.mem_cons, List.not_mem_nil, or_false] at h
        rcases h with h | h | h
        · exact (c1 h).elim
        · exact (c2 h).elim
        · exact (c3 h).elim
    have hap : apS g (o :: s) = match s with | [] => none | a :: s => (workS g a o).map (· :: s) := by
      simp only [apS, c1, c2, c3, if_false] <;> (cases s <;> rfl)
    have hcnt := inv.cnt
    rw [List.filter_cons, (p_facts g hgp).1] at hcnt
    cases h3 with
    | nil => simp at hcnt
    | @cons r1 o1 rs s hr1 h4 =>
    have l35 := (l3.trans l4).trans l5
    refine seq_app4 (t := a) rfl (l35.get a2) ?_
    refine Is.go L4 fun σ6 l6 => ?_
    have l36 := l35.trans l6
    refine ⟨nofun, ?_⟩
    have s6 : AllSum σ6 (r1 :: rs) (o1 :: s) := s2.mono l36 (by first | exact fun _ m => (List.not_mem_nil m).elim | simp)
    refine pop_ok (xs := rs.reverse.map .ref) (x := .ref r1) (by show σ6 a = _; rw [l36.get a2]; simp) (by simp at hrl ⊢; omega) ?_
    generalize hσ7 : σ6.set a (.list (rs.reverse.map .ref)) = σ7
    have k7 : Kp [a] σ6 σ7 := by rw [← hσ7]; exact Kp.set _ (by first | exact .head _ | exact .tail _ (.head _) | simp)
    have k7' : Kp [a, b] σ6 σ7 := by rw [← hσ7]; exact Kp.set _ (by first | exact .head _ | exact .tail _ (.head _) | simp)
    have a7 : σ7 a = some (.list (rs.reverse.map .ref)) := by rw [← hσ7, AH.set_same]
    have n6 : ∀ c ∈ [a], ∀ x : Sm, σ6 c ≠ some (.sum x.p x.m x.n) := by
      intro c m x e
      simp only [List.mem_cons, List.not_mem_nil, or_false] at m
      subst m
      rw [l36.get a2] at e; cases e
    have s7 := s6.mono k7 n6
    have b7 : Signs σ7 b gs := k7 _ _ (by simpa using Ne.symm hab) (l36.get b2)
    have r7 : σ7 r = some (.sum o.p o.m o.n) := k7 _ _ (by simpa using hra a (by simp)) (l36.get r2)
    refine Is.go L5 fun σ8 l8 => ?_
    refine Is.go (Is.loc (x := .int line) rfl nofun) fun σ9 l9 => ?_
    have l79 := l8.trans l9
    cases s7 with
    | cons q1 q2 =>
    have w1 : wt o1 ≤ 7000 := Nat.le_trans (wt_le (gs := g :: gs) (by simp)) hp
    have kk9 : Kp [a, b] σ σ9 := (kk.trans l36.of).trans (k7'.trans l79.of)
    refine worked_ok (a := o1) (b := o) hgp (l79.get q1) (l79.get r7) (inv.sml o1 (by simp)) (by unfold wt at w1; omega) (by unfold wt at wo; omega) ?_ ?_
    · intro d r' σ10 hw l10 hd
      have l710 := l79.trans l10
      refine app_ok (l710.get a7) (by simp at hrl ⊢; omega) nofun ?_
      exact fin d s rs r' σ10 _ _ (by rw [hap]; show (workS g o1 o).map (· :: s) = _; rw [hw]; rfl) (kk9.trans l10.of) (l710.get a7) (q2.mono l710 (by first | exact fun _ m => (List.not_mem_nil m).elim | simp)) hd (l710.get b7)
    · exact fun e9 σ10 l10 => hE' (by rw [hap]; show (workS g o1 o).map (· :: s) = _; rw [e9]; rfl) _ (kk9.trans l10.of)
theorem reduced_ok {n a b : Nat} {lv line : Int} {gs : List (List Nat)} {s : List Sm} (hab : a ≠ b) (inv : Inv gs s 1) (hp : pot gs s ≤ 7000) (hs : Sums σ a s) (hg : Signs σ b gs) (hL : σ aLEVELS = some (.dict pLEV)) (hl : gs.length ≤ 1000)
    (hQ : ∀ gs' s' σ', redS lv gs s = some (gs', s') → Kp [a, b] σ σ' → Sums σ' a s' → Signs σ' b gs' → Q .none σ') (hE : redS lv gs s = none → ∀ σ', Kp [a, b] σ σ' → E σ') :
    cwp theProg (n + 3) 8 [.ref a, .ref b, .int lv, .int line] σ Q E := by
  refine defCall (fn := _) rfl rfl (by simp) ?_
  refine ⟨gs.length + 1, ?_⟩
  exact red_loop hab gs s σ .unb .unb inv hp hs hg hL hl (fun gs' s' σ' _ _ e k h1 h2 => hQ gs' s' σ' e k h1 h2) hE
end
end Nm
end

section
open PySem PySem.W PyProof.Rows
set_option tactic.hygienic false
set_option maxRecDepth 100000
set_option maxHeartbeats 2000000
set_option linter.unusedVariables false
set_option linter.unusedSimpArgs false
namespace Nm

theorem red_len {lv : Int} : ∀ {gs gs' : List (List Nat)} {s s' : List Sm}, redS lv gs s = some (gs', s') → gs'.length ≤ gs.length
  | [], gs', s, s', e => by cases e; exact Nat.le_refl _
  | g :: gs, gs', s, s', e => by
    unfold redS at e
    split at e
    · cases ha : apS g s with
      | none => rw [ha] at e; cases e
      | some u =>
        rw [ha] at e
        have b := red_len (s := u) e
        simp only [List.length_cons]; omega
    · cases e; exact Nat.le_refl _
section
variable {C : CallT} {ρ : List AV} {σ : AH} {E : AH → Prop} {Q : VQ}
theorem Sums.at {σ σ' : AH} {a : Nat} {s : List Sm} (h : Sums σ a s) (k : Al σ σ') : Sums σ' a s := by
  obtain ⟨rs, h1, h2⟩ := h
  exact ⟨rs, k.get h1, h2.mono k (by first | exact fun _ m => (List.not_mem_nil m).elim | simp)⟩
theorem seq_expr {u : AS} {Q : SQ} {e : AE} (k : ewp C e ρ σ (fun _ σ₁ => swp C u ρ σ₁ Q E) E) : swp C (.seq (.expr e) u) ρ σ Q E := k
theorem call1_ok {f : Nat} {e1 : AE} {x : AV} {K : VQ} (h1 : Is C e1 ρ σ x) (k : ∀ σ', Al σ σ' → C f [x] σ' K E) : ewp C (.call1 f e1) ρ σ K E := h1.run fun _ σ1 l1 e => by subst e; exact k σ1 l1
theorem call2_ok {f : Nat} {e1 e2 : AE} {x y : AV} {K : VQ} (h1 : Is C e1 ρ σ x) (h2 : Is C e2 ρ σ y) (k : ∀ σ', Al σ σ' → C f [x, y] σ' K E) : ewp C (.call2 f e1 e2) ρ σ K E :=
  h1.run fun _ σ1 l1 e => by subst e; exact (h2.at l1).run fun _ σ2 l2 e => by subst e; exact k σ2 (l1.trans l2)
theorem call3_ok {f : Nat} {e1 e2 e3 : AE} {x y z : AV} {K : VQ} (h1 : Is C e1 ρ σ x) (h2 : Is C e2 ρ σ y) (h3 : Is C e3 ρ σ z) (k : ∀ σ', Al σ σ' → C f [x, y, z] σ' K E) : ewp C (.call3 f e1 e2 e3) ρ σ K E :=
  h1.run fun _ σ1 l1 e => by
    subst e
    exact (h2.at l1).run fun _ σ2 l2 e => by
      subst e
      exact (h3.at (l1.trans l2)).run fun _ σ3 l3 e => by subst e; exact k σ3 ((l1.trans l2).trans l3)
theorem call4_ok {f : Nat} {e1 e2 e3 e4 : AE} {x y z v : AV} {K : VQ} (h1 : Is C e1 ρ σ x) (h2 : Is C e2 ρ σ y) (h3 : Is C e3 ρ σ z) (h4 : Is C e4 ρ σ v) (k : ∀ σ', Al σ σ' → C f [x, y, z, v] σ' K E) : ewp C (.call4 f e1 e2 e3 e4) ρ σ K E :=
  h1.run fun _ σ1 l1 e => by
    subst e
    exact (h2.at l1).run fun _ σ2 l2 e => by
      subst e
      exact (h3.at (l1.trans l2)).run fun _ σ3 l3 e => by
        subst e
        exact (h4.at ((l1.trans l2).trans l3)).run fun _ σ4 l4 e => by subst e; exact k σ4 (((l1.trans l2).trans l3).trans l4)
theorem closed_ok {n a b : Nat} {line : Int} {gs : List (List Nat)} {s : List Sm} (hab : a ≠ b) (inv : Inv gs s 1) (hp : pot gs s ≤ 7000) (hs : Sums σ a s) (hg : Signs σ b gs) (hL : σ aLEVELS = some (.dict pLEV)) (hl : gs.length ≤ 1000)
    (hQ : ∀ c σ', closeS gs s = some c → Kp [a, b] σ σ' → Sums σ' a c.s → Signs σ' b c.gs → Q .none σ') (hE : closeS gs s = none → ∀ σ', Kp [a, b] σ σ' → E σ') :
    cwp theProg (n + 4) 9 [.ref a, .ref b, .int line] σ Q E := by
  refine defCall (fn := _) rfl rfl (by simp) ?_
  refine seq_expr (call4_ok (Is.loc (x := .ref a) rfl nofun) (Is.loc (x := .ref b) rfl nofun) Is.int (Is.loc (x := .int line) rfl nofun) fun σ1 l1 => ?_)
  have hc : closeS gs s = match redS 0 gs s with | some (_ :: gs, s) => some ⟨gs, s, false⟩ | _ => none := rfl
  refine reduced_ok hab inv hp (hs.at l1) (l1.get hg) (l1.get hL) hl (fun gs' s' σ2 e k h1 h2 => ?_) fun e σ2 k => hE (by rw [hc, e]) σ2 (l1.of.trans k)
  have inv' := (red_inv inv e).1
  have k' := (l1.of (l := [a, b])).trans k
  refine seq_ite (Is.signsEq (t := b) (Is.loc rfl nofun) h2 inv'.ok) (fun e' σ3 l3 => ?_) fun e' σ3 l3 => ?_
  · refine seq_fault (by nofun) (hE ?_ σ3 (k'.trans l3.of))
    cases gs' with
    | nil => rw [hc, e]
    | cons g gs' => cases e'
  · cases gs' with
    | nil => cases e'
    | cons g gs' =>
      refine skip_next ?_
      have h3 := l3.get h2
      obtain ⟨rs, q1, q2⟩ := h1.at l3
      have hgl : gs'.length ≤ 1000000 := by
        have := red_len e
        simp only [List.length_cons] at this
        omega
      refine seq_expr ⟨nofun, pop_ok (xs := gs'.reverse.map .str) (x := .str g) (by show σ3 b = _; rw [h3]; simp) (by simpa using hgl) ?_⟩
      refine hQ ⟨gs', s', false⟩ _ (by rw [hc, e]) ((k'.trans l3.of).trans (Kp.set _ (by first | exact .head _ | exact .tail _ (.head _) | simp))) ⟨rs, ?_, ?_⟩ ?_
      · rw [AH.set_ne _ _ hab]; exact q1
      · refine q2.mono (l := [b]) (Kp.set _ (by first | exact .head _ | exact .tail _ (.head _) | simp)) ?_
        intro c m x e
        simp only [List.mem_cons, List.not_mem_nil, or_false] at m
        subst m
        rw [h3] at e; cases e
      · exact AH.set_same _ _ _
end
end Nm
end

section
open PySem PySem.W PyProof.Rows
set_option tactic.hygienic false
set_option maxRecDepth 100000
set_option maxHeartbeats 2000000
set_option linter.unusedVariables false
set_option linter.unusedSimpArgs false
namespace Nm

noncomputable def MInv (c : Mc) : Prop := Inv c.gs c.s (if c.w then 0 else 1)
theorem lev_keys {t : List Nat} (h : (pLEV.lookup t).isSome = true) : t ∈ pMARKS := by
  simp only [pLEV, List.lookup_cons, List.lookup_nil] at h
  repeat' split at h
  all_goals first
    | (rename_i e; rw [beq_iff_eq] at e; subst e; decide)
    | cases h
theorem inv_push {gs : List (List Nat)} {s : List Sm} {k : Nat} {g : List Nat} (h : Inv gs s k) (hg : g = [40] ∨ g ∈ uMARKS) : Inv (g :: gs) s k := by
  refine ⟨?_, ?_, h.sml⟩
  · intro x m
    rcases List.mem_cons.mp m with rfl | m
    · exact .inr hg
    · exact h.ok x m
  · have : pMARKS.contains g = false := by
      rcases hg with rfl | hg
      · decide
      · exact (u_facts g hg).1
    rw [List.filter_cons, this]; exact h.cnt
theorem red_stop {lv : Int} {g : List Nat} {gs' : List (List Nat)} {s' : List Sm} : ∀ {gs : List (List Nat)} {s : List Sm}, redS lv gs s = some (g :: gs', s') → hot lv g = false
  | [], s, e => by cases e
  | x :: gs, s, e => by
    unfold redS at e
    split at e
    · cases ha : apS x s with
      | none => rw [ha] at e; cases e
      | some u => rw [ha] at e; exact red_stop (s := u) e
    · rename_i h; cases e; simpa using h
theorem hot0 {g : List Nat} (h : g ∈ pMARKS ∨ g = [40] ∨ g ∈ uMARKS) (n : hot 0 g = false) : g = [40] := by
  rcases h with h | h | h
  · revert n; revert g; decide +kernel
  · exact h
  · revert n; revert g; decide +kernel
set_option tactic.hygienic true in
theorem step_inv {t : Tk} {c c' : Mc} (h : MInv c) (hv : ∀ v, t = .val v → Sml v ∧ wt v ≤ 70) (e : stepS t c = some c') : MInv c' ∧ pot c'.gs c'.s ≤ pot c.gs c.s + 70 ∧ c'.gs.length ≤ c.gs.length + 1 := by
  obtain ⟨gs, s, w⟩ := c
  have hp : ∀ g, pot (g :: gs) s = pot gs s + 70 := fun g => by simp only [pot, List.length_cons]; omega
  cases t with
  | val v =>
    cases w with
    | false => cases e
    | true =>
      cases e
      refine ⟨⟨h.ok, ?_, ?_⟩, ?_, ?_⟩
      · have := h.cnt; simp at this ⊢; exact this
      · intro x m
        rcases List.mem_cons.mp m with rfl | m
        · exact (hv _ rfl).1
        · exact h.sml x m
      · have := (hv _ rfl).2
        simp only [pot, List.map_cons, List.sum_cons]; omega
      · simp
  | op t =>
    cases w with
    | true =>
      simp only [stepS, if_true] at e
      split at e
      · rename_i q
        cases e
        exact ⟨inv_push h (.inr (by rcases q with rfl | rfl | rfl <;> decide)), by rw [hp]; exact Nat.le_refl _, by simp⟩
      · split at e
        · cases e
          exact ⟨inv_push h (.inl rfl), by rw [hp]; exact Nat.le_refl _, by simp⟩
        · cases e
    | false =>
      have h : Inv gs s 1 := h
      simp only [stepS, Bool.false_eq_true, if_false] at e
      split at e
      · unfold closeS at e
        split at e
        · rename_i g gs' s' q
          cases e
          have r := red_inv h q
          have l := red_len q
          have ne : g = [40] := hot0 (r.1.ok g (by simp)) (red_stop q)
          refine ⟨⟨fun x m => r.1.ok x (by simp [m]), ?_, r.1.sml⟩, ?_, ?_⟩
          · have := r.1.cnt
            rw [ne, List.filter_cons, show pMARKS.contains [40] = false by decide] at this
            simpa using this
          · have := r.2
            simp only [pot, List.length_cons] at this ⊢; omega
          · simp only [List.length_cons] at l ⊢; omega
        · cases e
      · split at e
        · rename_i q
          have hm := lev_keys q
          cases hr : redS (lev t) gs s with
          | none => rw [hr] at e; cases e
          | some u =>
            rw [hr] at e; cases e
            obtain ⟨gs', s'⟩ := u
            have r := red_inv h hr
            have l := red_len hr
            refine ⟨⟨?_, ?_, r.1.sml⟩, ?_, ?_⟩
            · intro x m
              rcases List.mem_cons.mp m with rfl | m
              · exact .inl hm
              · exact r.1.ok x m
            · rw [List.filter_cons, (p_facts _ hm).1]
              have := r.1.cnt
              simp at this ⊢; exact this
            · have := r.2
              simp only [pot, List.length_cons] at this ⊢; omega
            · simp only [List.length_cons]; omega
        · cases e
end Nm
end

section
open PySem PySem.W PyProof.Rows
set_option tactic.hygienic false
set_option maxRecDepth 100000
set_option maxHeartbeats 2000000
set_option linter.unusedVariables false
set_option linter.unusedSimpArgs false
namespace Nm

/-- a piece and what it is told to stand for -/
noncomputable def TokAt (σ : AH) (pv tv : AV) : Tk → Prop
  | .op t => ∃ q k v, pv = .ref q ∧ σ q = some (.piece k t v) ∧ tv = .none
  | .val s => ∃ q k t v r, pv = .ref q ∧ σ q = some (.piece k t v) ∧ tv = .ref r ∧ σ r = some (.sum s.p s.m s.n)
inductive Toks (σ : AH) : List AV → List AV → List Tk → Prop where
  | nil : Toks σ [] [] []
  | cons {pv tv : AV} {t : Tk} {ps ts : List AV} {ks : List Tk} : TokAt σ pv tv t → Toks σ ps ts ks → Toks σ (pv :: ps) (tv :: ts) (t :: ks)
noncomputable def NotLists (l : List Nat) (σ : AH) : Prop := ∀ a ∈ l, ∃ xs, σ a = some (.list xs)
theorem TokAt.mono {l : List Nat} {σ σ' : AH} {pv tv : AV} {t : Tk} (h : TokAt σ pv tv t) (k : Kp l σ σ') (n : NotLists l σ) : TokAt σ' pv tv t := by
  have no : ∀ b o, (∀ xs, o ≠ .list xs) → σ b = some o → σ' b = some o := fun b o ho e => k b o (fun m => by obtain ⟨xs, hx⟩ := n b m; rw [hx] at e; cases e; exact ho xs rfl) e
  cases t with
  | op t => obtain ⟨q, kk, v, h1, h2, h3⟩ := h; exact ⟨q, kk, v, h1, no _ _ (by nofun) h2, h3⟩
  | val s => obtain ⟨q, kk, t, v, r, h1, h2, h3, h4⟩ := h; exact ⟨q, kk, t, v, r, h1, no _ _ (by nofun) h2, h3, no _ _ (by nofun) h4⟩
theorem Toks.mono {l : List Nat} {σ σ' : AH} {ps ts : List AV} {ks : List Tk} (h : Toks σ ps ts ks) (k : Kp l σ σ') (n : NotLists l σ) : Toks σ' ps ts ks := by
  induction h with
  | nil => exact .nil
  | cons a _ ih => exact .cons (a.mono k n) ih

section
variable {C : CallT} {ρ : List AV} {σ : AH} {E : AH → Prop}
theorem Sums.lists {a b : Nat} {s : List Sm} {gs : List (List Nat)} (h : Sums σ a s) (g : Signs σ b gs) : NotLists [a, b] σ := by
  intro c m
  simp only [List.mem_cons, List.not_mem_nil, or_false] at m
  obtain ⟨rs, h1, _⟩ := h
  rcases m with rfl | rfl
  · exact ⟨_, h1⟩
  · exact ⟨_, g⟩
noncomputable def stepBody : AS := (.seq (.asg 8 (.ife (.cmp .is (.loc 7) .none) (.attr (.loc 6) 4) (.str [])))
        (.seq (.ite (.and (.loc 5) (.cmp .isin (.loc 8) (.tup3 (.str [43]) (.str [45]) (.str [126]))))
          (.seq (.expr (.m1 .append (.loc 4) (.bin .add (.str [117]) (.loc 8))))
            .skip)
          (.seq (.ite (.and (.loc 5) (.cmp .eq (.loc 8) (.str [40])))
              (.seq (.expr (.m1 .append (.loc 4) (.str [40])))
                .skip)
              (.seq (.ite (.and (.loc 5) (.cmp .isnot (.loc 7) .none))
                  (.seq (.expr (.m1 .append (.loc 3) (.loc 7)))
                    (.seq (.asg 5 (.bool false))
                    .skip))
                  (.seq (.ite (.and (.not (.loc 5)) (.cmp .eq (.loc 8) (.str [41])))
                      (.seq (.expr (.call3 9 (.loc 3) (.loc 4) (.loc 2)))
                        .skip)
                      (.seq (.ite (.and (.not (.loc 5)) (.cmp .isin (.loc 8) (.gv 4)))
                          (.seq (.expr (.call4 8 (.loc 3) (.loc 4) (.idx (.gv 4) (.loc 8)) (.loc 2)))
                            (.seq (.expr (.m1 .append (.loc 4) (.loc 8)))
                            (.seq (.asg 5 (.bool true))
                            .skip)))
                          (.seq (.fault 2)
                            .skip))
                        .skip))
                    .skip))
                .skip))
            .skip))
        .skip))
theorem push_sum {a b r : Nat} {s : List Sm} {v : Sm} {gs : List (List Nat)} {rs : List Nat} (hab : a ≠ b) (h1 : σ a = some (.list (rs.reverse.map .ref))) (h2 : AllSum σ rs s) (hr : σ r = some (.sum v.p v.m v.n)) (hg : Signs σ b gs) :
    Sums (σ.set a (.list (rs.reverse.map .ref ++ [.ref r]))) a (v :: s) ∧ Signs (σ.set a (.list (rs.reverse.map .ref ++ [.ref r]))) b gs := by
  have k4 : Kp [a] σ (σ.set a (.list (rs.reverse.map .ref ++ [.ref r]))) := Kp.set _ (by first | exact .head _ | exact .tail _ (.head _) | simp)
  have hne : r ≠ a := fun x => by rw [x, h1] at hr; cases hr
  refine ⟨⟨r :: rs, by rw [AH.set_same]; simp, .cons (k4 _ _ (by simpa using hne) hr) (h2.mono k4 ?_)⟩, k4 _ _ (by simpa using Ne.symm hab) hg⟩
  intro c m x e
  simp only [List.mem_cons, List.not_mem_nil, or_false] at m
  subst m
  rw [h1] at e; cases e
theorem push_sign {a b : Nat} {s : List Sm} {g : List Nat} {gs : List (List Nat)} (hab : a ≠ b) (hs : Sums σ a s) (hg : Signs σ b gs) :
    Sums (σ.set b (.list (gs.reverse.map .str ++ [.str g]))) a s ∧ Signs (σ.set b (.list (gs.reverse.map .str ++ [.str g]))) b (g :: gs) := by
  obtain ⟨rs, h1, h2⟩ := hs
  have k4 : Kp [b] σ (σ.set b (.list (gs.reverse.map .str ++ [.str g]))) := Kp.set _ (by first | exact .head _ | exact .tail _ (.head _) | simp)
  refine ⟨⟨rs, k4 _ _ (by simpa using hab) h1, h2.mono k4 ?_⟩, ?_⟩
  · intro c m x e
    simp only [List.mem_cons, List.not_mem_nil, or_false] at m
    subst m
    have hg' : σ c = some (.list (gs.reverse.map .str)) := hg
    rw [hg'] at e; cases e
  · unfold Signs
    rw [AH.set_same]; simp
noncomputable def txtOf : Tk → List Nat | .op t => t | .val _ => []
theorem step_ok {n a b : Nat} {line : Int} {c : Mc} {t : Tk} {R : SQ} {x0 x1 pv tv o8 : AV} (hab : a ≠ b) (inv : MInv c) (hp : pot c.gs c.s ≤ 7000) (hl : c.gs.length ≤ 1000) (ht : TokAt σ pv tv t) (hb : (txtOf t).length ≤ 1000)
    (hs : Sums σ a c.s) (hg : Signs σ b c.gs) (hL : σ aLEVELS = some (.dict pLEV))
    (hQ : ∀ c' σ' o8', stepS t c = some c' → Kp [a, b] σ σ' → Sums σ' a c'.s → Signs σ' b c'.gs → R .next [x0, x1, .int line, .ref a, .ref b, .bool c'.w, pv, tv, o8'] σ')
    (hE : stepS t c = none → ∀ σ', Kp [a, b] σ σ' → E σ') :
    swp (cwp theProg (n + 4)) stepBody [x0, x1, .int line, .ref a, .ref b, .bool c.w, pv, tv, o8] σ R E := by
  have htn : tv ≠ .unb := by
    cases t with
    | op t => obtain ⟨q, k, v, rfl, h2, rfl⟩ := ht; nofun
    | val s => obtain ⟨q, k, t, v, r, rfl, h2, rfl, h4⟩ := ht; nofun
  obtain ⟨gs, s, w⟩ := c
  unfold stepBody
  refine seq_let (x := .str (txtOf t)) (Is.ife (Is.isNone (x := tv) (Is.loc rfl htn) htn) (fun e => ?_) fun e => ?_) nofun fun σ1 l1 => ?_
  · cases t with
    | op t => obtain ⟨q, k, v, rfl, h2, rfl⟩ := ht; exact Is.text (Is.loc rfl nofun) h2
    | val s => obtain ⟨q, k, t, v, r, rfl, h2, rfl, h4⟩ := ht; simp at e
  · cases t with
    | op t => obtain ⟨q, k, v, rfl, h2, rfl⟩ := ht; simp at e
    | val s => exact Is.str
  show swp _ _ [x0, x1, .int line, .ref a, .ref b, .bool w, pv, tv, .str (txtOf t)] σ1 R E
  have L5 : ∀ {C : CallT} {σ : AH}, Is C (.loc 5) [x0, x1, .int line, .ref a, .ref b, .bool w, pv, tv, .str (txtOf t)] σ (.bool w) := Is.loc rfl nofun
  have L8 : ∀ {C : CallT} {σ : AH}, Is C (.loc 8) [x0, x1, .int line, .ref a, .ref b, .bool w, pv, tv, .str (txtOf t)] σ (.str (txtOf t)) := Is.loc rfl nofun
  have ht1 := ht.mono (l := []) l1 (by intro a m; cases m)
  have hs1 := hs.at l1
  have hg1 : Signs σ1 b gs := l1.get hg
  have hL1 := l1.get hL
  have hQ1 : ∀ c' σ' o8', stepS t ⟨gs, s, w⟩ = some c' → Kp [a, b] σ1 σ' → Sums σ' a c'.s → Signs σ' b c'.gs → R .next [x0, x1, .int line, .ref a, .ref b, .bool c'.w, pv, tv, o8'] σ' := fun c' σ' o8' e k => hQ c' σ' o8' e (l1.of.trans k)
  have hE1 : stepS t ⟨gs, s, w⟩ = none → ∀ σ', Kp [a, b] σ1 σ' → E σ' := fun e σ' k => hE e σ' (l1.of.trans k)
  refine seq_ite (Is.and L5 fun _ => Is.inTup3 L8) (fun e σ2 l2 => ?_) fun e σ2 l2 => ?_
  · simp only [List.any_cons, List.any_nil, Bool.or_false, Bool.and_eq_true, Bool.or_eq_true, beq_iff_eq] at e
    obtain ⟨rfl, e⟩ := e
    cases t with
    | val v => rcases e with e | e | e <;> cases e
    | op t =>
      have e' : t = [43] ∨ t = [45] ∨ t = [126] := e.imp Eq.symm (Or.imp Eq.symm Eq.symm)
      have hg2 := l2.get hg1
      refine seq_app (t := b) rfl hg2 ?_
      refine Is.go (Is.cat Is.str L8 (by rcases e' with rfl | rfl | rfl <;> decide)) fun σ3 l3 => ?_
      have l23 := l2.trans l3
      refine app_ok (l23.get hg1) (by simp at hl ⊢; omega) nofun ?_
      have ps := push_sign (g := 117 :: t) hab (hs1.at l23) (l23.get hg1)
      exact hQ1 ⟨(117 :: t) :: gs, s, true⟩ _ _ (by simp only [stepS, if_true]; rw [if_pos e']) (l23.of.trans (Kp.set _ (by first | exact .head _ | exact .tail _ (.head _) | simp))) ps.1 ps.2
  refine seq_ite (Is.and L5 fun _ => Is.eqS L8 Is.str) (fun e' σ3 l3 => ?_) fun e' σ3 l3 => ?_
  · simp only [Bool.and_eq_true, decide_eq_true_eq] at e'
    obtain ⟨rfl, e'⟩ := e'
    cases t with
    | val v => cases e'
    | op t =>
      have e2 : t = [40] := e'
      subst e2
      have l23 := l2.trans l3
      refine seq_app (t := b) rfl (l23.get hg1) ?_
      refine Is.go Is.str fun σ4 l4 => ?_
      have l24 := l23.trans l4
      refine app_ok (l24.get hg1) (by simp at hl ⊢; omega) nofun ?_
      have ps := push_sign (g := [40]) hab (hs1.at l24) (l24.get hg1)
      exact hQ1 ⟨[40] :: gs, s, true⟩ _ _ rfl (l24.of.trans (Kp.set _ (by first | exact .head _ | exact .tail _ (.head _) | simp))) ps.1 ps.2
  have l23 := l2.trans l3
  refine seq_ite (Is.and L5 fun _ => Is.isntNone (x := tv) (Is.loc rfl htn) htn) (fun e2 σ4 l4 => ?_) fun e2 σ4 l4 => ?_
  · simp only [Bool.and_eq_true, Bool.not_eq_true', decide_eq_false_iff_not] at e2
    obtain ⟨rfl, e2⟩ := e2
    have l24 := l23.trans l4
    cases t with
    | op t => obtain ⟨q, k, v, _, _, h⟩ := ht1; exact (e2 h).elim
    | val v =>
      obtain ⟨q, k, tx, vv, r, rfl, h2, rfl, h4⟩ := ht1
      obtain ⟨rs, q1, q2⟩ := hs1
      have hrl : rs.length ≤ 1000000 := by
        have h1 : s.length = (gs.filter (pMARKS.contains ·)).length + 0 := Inv.cnt inv
        have h2 : (gs.filter (pMARKS.contains ·)).length ≤ gs.length := List.length_filter_le _ _
        have h3 : gs.length ≤ 1000 := hl
        rw [q2.length, h1]
        omega
      refine seq_app (t := a) rfl (l24.get q1) ?_
      refine Is.go (Is.loc (x := .ref r) rfl nofun) fun σ5 l5 => ?_
      have l25 := l24.trans l5
      refine app_ok (l25.get q1) (by simpa using hrl) nofun ?_
      have ps := push_sum hab (l25.get q1) (q2.mono l25 (by first | exact fun _ m => (List.not_mem_nil m).elim | simp)) (l25.get h4) (l25.get hg1)
      refine seq_let Is.bool nofun fun σ6 l6 => ?_
      exact hQ1 ⟨gs, v :: s, false⟩ _ _ rfl ((l25.of.trans (Kp.set _ (by first | exact .head _ | exact .tail _ (.head _) | simp))).trans l6.of) (ps.1.at l6) (l6.get ps.2)
  have l24 := l23.trans l4
  refine seq_ite (Is.and (Is.not L5) fun _ => Is.eqS L8 Is.str) (fun e5 σ5 l5 => ?_) fun e5 σ5 l5 => ?_
  · simp only [Bool.and_eq_true, Bool.not_eq_true', decide_eq_true_eq] at e5
    obtain ⟨rfl, e5⟩ := e5
    cases t with
    | val v => cases e5
    | op t =>
      have e6 : t = [41] := e5
      subst e6
      have l25 := l24.trans l5
      have hst : stepS (.op [41]) ⟨gs, s, false⟩ = closeS gs s := rfl
      refine seq_expr (call3_ok (Is.loc (x := .ref a) rfl nofun) (Is.loc (x := .ref b) rfl nofun) (Is.loc (x := .int line) rfl nofun) fun σ6 l6 => ?_)
      have l26 := l25.trans l6
      refine closed_ok hab inv hp (hs1.at l26) (l26.get hg1) (l26.get hL1) hl (fun c σ7 e k h1 h2 => ?_) fun e σ7 k => hE1 (by rw [hst, e]) σ7 (l26.of.trans k)
      have hw : c.w = false := by
        unfold closeS at e
        split at e
        · cases e; rfl
        · cases e
      have := hQ1 c σ7 (.str [41]) (by rw [hst, e]) (l26.of.trans k) h1 h2
      rw [hw] at this
      exact this
  have l25 := l24.trans l5
  refine seq_ite (Is.and (Is.not L5) fun _ => Is.inDict L8 Is.gv (l25.get hL1)) (fun e6 σ6 l6 => ?_) fun e6 σ6 l6 => ?_
  · simp only [Bool.and_eq_true, Bool.not_eq_true'] at e6
    obtain ⟨rfl, e6⟩ := e6
    cases t with
    | val v => cases e6
    | op t =>
      have e7 : (pLEV.lookup t).isSome = true := e6
      have hm := lev_keys e7
      have n41 : t ≠ [41] := (mark_facts t hm).2.1
      have l26 := l25.trans l6
      have hst : stepS (.op t) ⟨gs, s, false⟩ = (redS (lev t) gs s).map fun r => ⟨t :: r.1, r.2, true⟩ := by
        simp only [stepS, Bool.false_eq_true, if_false, n41, e7, if_true]
      refine seq_expr (call4_ok (Is.loc (x := .ref a) rfl nofun) (Is.loc (x := .ref b) rfl nofun) (Is.idxD Is.gv L8 (l26.get hL1) (lev_some t hm)) (Is.loc (x := .int line) rfl nofun) fun σ7 l7 => ?_)
      have l27 := l26.trans l7
      refine reduced_ok hab inv hp (hs1.at l27) (l27.get hg1) (l27.get hL1) hl (fun gs' s' σ8 e k h1 h2 => ?_) fun e σ8 k => hE1 (by rw [hst, e]; rfl) σ8 (l27.of.trans k)
      have hgl := red_len e
      refine seq_app (t := b) rfl h2 ?_
      refine Is.go L8 fun σ9 l9 => ?_
      refine app_ok (l9.get h2) (by simp at hl hgl ⊢; omega) nofun ?_
      have ps := push_sign (g := t) hab (h1.at l9) (l9.get h2)
      refine seq_let Is.bool nofun fun σ10 l10 => ?_
      exact hQ1 ⟨t :: gs', s', true⟩ _ _ (by rw [hst, e]; rfl) (((l27.of.trans k).trans l9.of).trans ((Kp.set _ (by first | exact .head _ | exact .tail _ (.head _) | simp)).trans l10.of)) (ps.1.at l10) (l10.get ps.2)
  refine seq_fault (by nofun) (hE1 ?_ σ6 (l25.trans l6).of)
  cases t with
  | val v =>
    obtain ⟨q, k, tx, vv, r, rfl, h2, rfl, h4⟩ := ht1
    cases w with
    | true => simp at e2
    | false => rfl
  | op t =>
    have q5 : ¬ (w = false ∧ t = [41]) := by
      intro ⟨h1, h2⟩
      subst h1; subst h2; simp [txtOf] at e5
    have q6 : ¬ (w = false ∧ (pLEV.lookup t).isSome = true) := by
      intro ⟨h1, h2⟩
      subst h1
      have h3 : (pLEV.lookup (txtOf (.op t))).isSome = true := h2
      rw [h3] at e6; simp at e6
    have q1 : ¬ (w = true ∧ (t = [43] ∨ t = [45] ∨ t = [126])) := by
      intro ⟨h1, h2⟩
      subst h1
      rcases h2 with rfl | rfl | rfl <;> simp [txtOf] at e
    have q2 : ¬ (w = true ∧ t = [40]) := by
      intro ⟨h1, h2⟩
      subst h1; subst h2; simp [txtOf] at e'
    cases w with
    | true =>
      simp only [true_and] at q1 q2
      simp only [stepS, if_true, q1, q2, if_false]
    | false =>
      simp only [true_and] at q5 q6
      simp only [stepS, Bool.false_eq_true, if_false, q5, q6]
end
end Nm
end

section
open PySem PySem.W PyProof.Rows
set_option tactic.hygienic false
set_option maxRecDepth 100000
set_option maxHeartbeats 2000000
set_option linter.unusedVariables false
set_option linter.unusedSimpArgs false
namespace Nm
section
variable {C : CallT} {ρ : List AV} {σ : AH} {E : AH → Prop}
theorem NotLists.no {l : List Nat} (n : NotLists l σ) {b : Nat} {o : AO} (ho : ∀ xs, o ≠ .list xs) (e : σ b = some o) : b ∉ l := fun m => by
  obtain ⟨xs, hx⟩ := n b m
  rw [hx] at e; cases e; exact ho xs rfl
theorem loop_ok {n a b p q : Nat} {line : Int} {Q : SQ} (hab : a ≠ b) {G : AH → Prop} (hG : ∀ σ σ', G σ → Kp [a, b] σ σ' → G σ') : ∀ (ks : List Tk) (ps ts : List AV) (c : Mc) (σ : AH) (o6 o7 o8 : AV), Toks σ ps ts ks → MInv c → pot c.gs c.s + 70 * ks.length ≤ 7000 → c.gs.length + ks.length ≤ 1000 →
    (∀ v, Tk.val v ∈ ks → Sml v ∧ wt v ≤ 70) → (∀ t, Tk.op t ∈ ks → t.length ≤ 1000) → Sums σ a c.s → Signs σ b c.gs → σ aLEVELS = some (.dict pLEV) → G σ →
    (∀ c' σ' o6' o7' o8', runS ks c = some c' → MInv c' → pot c'.gs c'.s ≤ 7000 → c'.gs.length ≤ 1000 → Kp [a, b] σ σ' → Sums σ' a c'.s → Signs σ' b c'.gs → σ' aLEVELS = some (.dict pLEV) → Q .next [.ref p, .ref q, .int line, .ref a, .ref b, .bool c'.w, o6', o7', o8'] σ') →
    (runS ks c = none → ∀ σ', Kp [a, b] σ σ' → E σ') →
    forN G (fun (p : AV × AV) ρ => (ρ.set 6 p.1).set 7 p.2) (fun ρ σ q => swp (cwp theProg (n + 4)) stepBody ρ σ q E) Q (ps.zip ts) [.ref p, .ref q, .int line, .ref a, .ref b, .bool c.w, o6, o7, o8] σ
  | [], ps, ts, c, σ, o6, o7, o8, ht, inv, hp, hl, hv, ho, hs, hg, hL, g, hQ, hE => by
    cases ht
    exact ⟨g, hQ c σ o6 o7 o8 rfl inv (by simpa using hp) (by simpa using hl) (Kp.refl _ _) hs hg hL⟩
  | k :: ks, _, _, c, σ, o6, o7, o8, ht, inv, hp, hl, hv, ho, hs, hg, hL, g, hQ, hE => by
    cases ht with
    | cons h ht =>
    simp only [List.length_cons] at hp hl
    refine ⟨g, ?_⟩
    refine step_ok (c := c) (t := k) hab inv (by omega) (by omega) h ?_ hs hg hL (fun c' σ' o8' e kk h1 h2 => ?_) fun e σ' kk => hE (by rw [runS, e]; rfl) σ' kk
    · cases k with
      | op t => exact ho t (by simp)
      | val v => simp [txtOf]
    · have si := step_inv inv (fun v e => by subst e; exact hv v (by simp)) e
      have nl := hs.lists hg
      exact loop_ok hab hG ks _ _ c' σ' _ _ o8' (ht.mono kk nl) si.1 (by omega) (by omega) (fun v m => hv v (by simp [m])) (fun t m => ho t (by simp [m])) h1 h2 (kk _ _ (nl.no (by nofun) hL) hL) (hG _ _ g kk)
        (fun c'' σ'' q6 q7 q8 e' i1 i2 i3 k' r1 r2 r3 => hQ c'' σ'' q6 q7 q8 (by rw [runS, e]; exact e') i1 i2 i3 (kk.trans k') r1 r2 r3) (fun e' σ'' k' => hE (by rw [runS, e]; exact e') σ'' (kk.trans k'))
end
end Nm
end

section
open PySem PySem.W PyProof.Rows
set_option tactic.hygienic false
set_option maxRecDepth 100000
set_option maxHeartbeats 2000000
set_option linter.unusedVariables false
set_option linter.unusedSimpArgs false
namespace Nm
section
variable {C : CallT} {ρ : List AV} {σ : AH} {E : AH → Prop} {Q : VQ}
theorem seq_asg3new {u : AS} {Q : SQ} {i j k : Nat} (h : ∀ a b σ', a ≠ b → σ a = none → σ b = none → σ' a = some (.list []) → σ' b = some (.list []) → Al σ σ' → swp C u (((ρ.set i (.ref a)).set j (.ref b)).set k (.bool true)) σ' Q E) :
    swp C (.seq (.asg3 i j k (.tup3 .lst0 .lst0 (.bool true))) u) ρ σ Q E := by
  show newO σ (.list []) fun x σ₁ => newO σ₁ (.list []) fun y σ₂ => newO σ₂ (.tup [x, y, .bool true]) fun v σ₁ => ∃ a x y z, v = .ref a ∧ σ₁ a = some (.tup [x, y, z]) ∧ swp C u (((ρ.set i x).set j y).set k z) σ₁ Q E
  refine new fun a σ1 fa ha l1 => new fun b σ2 fb hb l2 => new fun c σ3 fc hc l3 => ?_
  have hab : a ≠ b := fun e => by rw [e, fb] at ha; cases ha
  have fb' : σ b = none := by
    cases e : σ b with
    | none => rfl
    | some o => have := l1.get e; rw [fb] at this; cases this
  exact ⟨c, _, _, _, rfl, hc, h a b σ3 hab fa fb' ((l2.trans l3).get ha) (l3.get hb) ((l1.trans l2).trans l3)⟩
theorem Kp.fresh {a b : Nat} {σ σ1 σ' : AH} (l : Al σ σ1) (k : Kp [a, b] σ1 σ') (fa : σ a = none) (fb : σ b = none) : Al σ σ' := fun c o _ e => k c o (by
  intro m
  simp only [List.mem_cons, List.not_mem_nil, or_false] at m
  rcases m with rfl | rfl
  · rw [fa] at e; cases e
  · rw [fb] at e; cases e) (l.get e)
theorem run_state {ks : List Tk} : ∀ {c c' : Mc}, runS ks c = some c' → True := fun _ => trivial
theorem expr_ok {n p q : Nat} {line : Int} {ks : List Tk} {ps ts : List AV} (ht : Toks σ ps ts ks) (h1 : σ p = some (.list ps)) (h2 : σ q = some (.list ts)) (hk : ks.length ≤ 100) (hv : ∀ v, Tk.val v ∈ ks → Sml v ∧ wt v ≤ 70) (ho : ∀ t, Tk.op t ∈ ks → t.length ≤ 1000)
    (hL : σ aLEVELS = some (.dict pLEV)) (hQ : ∀ v r σ', parseS ks = some v → Al σ σ' → σ' r = some (.sum v.p v.m v.n) → Q (.ref r) σ') (hE : parseS ks = none → ∀ σ', Al σ σ' → E σ') :
    cwp theProg (n + 5) 10 [.ref p, .ref q, .int line] σ Q E := by
  refine defCall (fn := _) rfl rfl (by simp) ?_
  refine seq_asg3new fun a b σ1 hab fa fb ha hb l1 => ?_
  have hlen : ps.length = ks.length ∧ ts.length = ks.length := by
    clear h1 h2 hQ hE hv ho hk
    induction ht with
    | nil => exact ⟨rfl, rfl⟩
    | cons _ _ ih => simp [ih.1, ih.2]
  have hpa : p ∉ [a, b] := by
    intro m
    simp only [List.mem_cons, List.not_mem_nil, or_false] at m
    rcases m with rfl | rfl
    · rw [fa] at h1; cases h1
    · rw [fb] at h1; cases h1
  have hqa : q ∉ [a, b] := by
    intro m
    simp only [List.mem_cons, List.not_mem_nil, or_false] at m
    rcases m with rfl | rfl
    · rw [fa] at h2; cases h2
    · rw [fb] at h2; cases h2
  refine ⟨nofun, nofun, p, q, ps, ts, rfl, rfl, l1.get h1, l1.get h2, by rw [hlen.1, hlen.2], by rw [hlen.1, show big = 16777216 from rfl]; omega, ?_⟩
  refine loop_ok (c := ⟨[], [], true⟩) (line := line) (p := p) (q := q) hab (fun σ σ' g k => ⟨k _ _ hpa g.1, k _ _ hqa g.2⟩) ks ps ts σ1 _ _ _ (ht.mono (l := []) l1 (by intro a m; cases m)) ⟨by simp, rfl, by simp⟩ (by simp [pot]; omega) (by simp; omega) hv ho ⟨[], ha, .nil⟩ hb (l1.get hL) ⟨l1.get h1, l1.get h2⟩ ?_ ?_
  · intro c' σ2 o6 o7 o8 e inv pp ll k s2 g2 L2
    have k2 := Kp.fresh l1 k fa fb
    have he : parseS ks = endS c' := by unfold parseS; rw [e]; rfl
    obtain ⟨gs, s, w⟩ := c'
    refine seq_ite (Is.loc (x := .bool w) rfl nofun) (fun e3 σ3 l3 => ?_) fun e3 σ3 l3 => ?_
    · subst e3
      exact seq_fault (by nofun) (hE (by rw [he]; rfl) σ3 (k2.trans l3))
    subst e3
    refine skip_next ?_
    refine seq_expr (call4_ok (Is.loc (x := .ref a) rfl nofun) (Is.loc (x := .ref b) rfl nofun) Is.int (Is.loc (x := .int line) rfl nofun) fun σ4 l4 => ?_)
    have l34 := l3.trans l4
    have hes : endS ⟨gs, s, false⟩ = match redS 0 gs s with | some ([], s) => s.getLast? | _ => none := rfl
    refine reduced_ok hab inv pp (s2.at l34) (l34.get g2) (l34.get L2) ll (fun gs' s' σ5 e5 k5 s5 g5 => ?_) fun e5 σ5 k5 => hE (by rw [he, hes, e5]) σ5 (Kp.fresh l1 ((k.trans l34.of).trans k5) fa fb)
    have inv5 := (red_inv inv e5).1
    have kk := Kp.fresh l1 ((k.trans l34.of).trans k5) fa fb
    refine seq_ite (Is.signsNe (t := b) (Is.loc rfl nofun) g5 inv5.ok) (fun e6 σ6 l6 => ?_) fun e6 σ6 l6 => ?_
    · refine seq_fault (by nofun) (hE ?_ σ6 (kk.trans l6))
      cases gs' with
      | nil => cases e6
      | cons g gs' => rw [he, hes, e5]
    · cases gs' with
      | cons g gs' => cases e6
      | nil =>
        obtain ⟨rs, r1, r2⟩ := s5.at l6
        refine skip_next ?_
        have hn := inv5.cnt
        cases s' with
        | nil => simp at hn
        | cons x s' =>
          cases s' with
          | cons y s' => simp at hn
          | nil =>
            cases r2 with
            | cons hx r2 =>
            cases r2 with
            | nil =>
            refine ret_is (Is.idxList (Is.loc (x := .ref a) rfl nofun) Is.int r1 (by decide) (by decide) rfl) fun σ7 l7 => ?_
            exact hQ x _ σ7 (by rw [he, hes, e5]; rfl) ((kk.trans l6).trans l7) (l7.get hx)
  · intro e σ' k
    exact hE (by unfold parseS; rw [e]; rfl) σ' (Kp.fresh l1 k fa fb)
end
end Nm
end

section
open PySem PySem.W PyProof.Rows
set_option tactic.hygienic false
set_option maxRecDepth 100000
set_option maxHeartbeats 2000000
set_option linter.unusedVariables false
set_option linter.unusedSimpArgs false
namespace Nm

/-- the well -/
noncomputable def Well (w : Nat) (σ : AH) : Prop := ∃ x xs k r, σ w = some (.list [.ref x, .int ((k : Nat) : Int), .int r]) ∧ σ x = some (.ro xs) ∧ w ≠ x ∧ k ≤ xs.length ∧ xs.length ≤ 40 ∧ (∀ m ∈ xs, 0 ≤ m ∧ m < 2147483647) ∧ 0 ≤ r ∧ r < 9973
theorem Well.at {w : Nat} {σ σ' : AH} (h : Well w σ) (l : Al σ σ') : Well w σ' := by
  obtain ⟨x, xs, k, r, h1, h2, h3⟩ := h
  exact ⟨x, xs, k, r, l.get h1, l.get h2, h3⟩
section
variable {C : CallT} {a b e : AE} {ρ : List AV} {σ : AH} {E : AH → Prop} {z : AV}
theorem Is.idxRo {t : Nat} {ns : List Int} {i m : Int} (h : Is C a ρ σ (.ref t)) (h' : Is C b ρ σ (.int i)) (g : σ t = some (.ro ns)) (h0 : 0 ≤ i) (hb : i < 1000000) (hi : ns[i.toNat]? = some m) : Is C (.idx a b) ρ σ (.int m) :=
  h.ofIdx h' fun _ _ l k => idx_ro (l.get g) h0 hb hi k
theorem Is.lenRo {t : Nat} {ns : List Int} (h : Is C a ρ σ (.ref t)) (g : σ t = some (.ro ns)) (hb : ns.length ≤ 1000000) : Is C (.b1 .len a) ρ σ (.int ns.length) := h.ofB1 fun _ _ l k => len_ro (l.get g) rfl hb k
theorem Is.lenList {t : Nat} {ns : List AV} (h : Is C a ρ σ (.ref t)) (g : σ t = some (.list ns)) (hb : ns.length ≤ 1000000) : Is C (.b1 .len a) ρ σ (.int ns.length) := h.ofB1 fun _ _ l k => len_list (l.get g) rfl hb k
theorem Is.lenTup {t : Nat} {ns : List AV} (h : Is C a ρ σ (.ref t)) (g : σ t = some (.tup ns)) (hb : ns.length ≤ 1000000) : Is C (.b1 .len a) ρ σ (.int ns.length) := h.ofB1 fun _ _ l k => len_tup (l.get g) rfl hb k
theorem seq_setidx {u : AS} {Q : SQ} {t : Nat} {k : Int} {xs : List AV} {v : AV} (he : Is C e ρ σ v) (ha : Is C a ρ σ (.ref t)) (hb : Is C b ρ σ (.int k)) (h : σ t = some (.list xs)) (h0 : 0 ≤ k) (h1 : k < 1000) (h2 : k < xs.length) (hv : v ≠ .unb)
    (g : ∀ σ', Al σ σ' → swp C u ρ (σ'.set t (.list (xs.set k.toNat v))) Q E) : swp C (.seq (.setidx a b e) u) ρ σ Q E := by
  refine he σ (Kp.refl _ _) _ E fun _ σ1 l1 e => ?_
  subst e
  refine ha σ1 l1 _ E fun _ σ2 l2 e => ?_
  subst e
  refine hb σ2 (l1.trans l2) _ E fun _ σ3 l3 e => ?_
  subst e
  have l := (l1.trans l2).trans l3
  exact ⟨t, k, xs, rfl, rfl, l.get h, h0, h1, h2, hv, g σ3 l⟩

theorem draw_ok {w : Nat} (W : Well w σ) {size : Int} (h0 : 0 < size) {Q : VQ} (h : ∀ d σ', 0 ≤ d → d < size → Well w σ' → Kp [w] σ σ' → Q (.int d) σ') (n : Nat) :
    cwp theProg (n + 1) 12 [.ref w, .int size] σ Q E := by
  obtain ⟨x, xs, k, r, hw, hx, hne, hk, hlen, hm, hr0, hr1⟩ := W
  refine defCall (fn := _) rfl rfl (by simp) ?_
  have L0 : ∀ {C : CallT} {σ : AH}, Is C (.loc 0) ([.ref w, .int size] ++ List.replicate 0 .unb) σ (.ref w) := Is.loc rfl nofun
  have L1 : ∀ {C : CallT} {σ : AH}, Is C (.loc 1) ([.ref w, .int size] ++ List.replicate 0 .unb) σ (.int size) := Is.loc rfl nofun
  have hne' : x ≠ w := Ne.symm hne
  refine seq_ite (Is.lt (Is.idxList L0 Is.int hw (by decide) (by decide) rfl) (Is.lenRo (Is.idxList L0 Is.int hw (by decide) (by decide) rfl) hx (by omega))) (fun e σ1 l1 => ?_) fun e σ1 l1 => ?_
  · have hkl : k < xs.length := by simpa using e
    have w1 := l1.get hw
    have x1 := l1.get hx
    refine seq_setidx (v := .int ((k : Int) + 1)) (Is.add (Is.idxList L0 Is.int w1 (by decide) (by decide) rfl) Is.int) L0 Is.int w1 (by decide) (by decide) (by simp) nofun fun σ2 l2 => ?_
    generalize hσ3 : σ2.set w (.list ([AV.ref x, .int k, .int r].set (1 : Int).toNat (.int ((k : Int) + 1)))) = σ3
    have w3 : σ3 w = some (.list [AV.ref x, .int ((k : Int) + 1), .int r]) := by rw [← hσ3, AH.set_same]; rfl
    have x3 : σ3 x = some (.ro xs) := by rw [← hσ3, AH.set_ne _ _ hne']; exact l2.get x1
    have k3 : Kp [w] σ σ3 := (l1.trans l2).of.trans (by rw [← hσ3]; exact Kp.set _ (by first | exact .head _ | exact .tail _ (.head _) | simp))
    have hxk : xs[k]? = some xs[k] := List.getElem?_eq_getElem hkl
    have hmk := hm xs[k] (List.getElem_mem hkl)
    have D : ∀ {σ : AH} {r : Int}, σ w = some (.list [AV.ref x, .int ((k : Int) + 1), .int r]) → σ x = some (.ro xs) → Is (cwp theProg n) (.idx (.idx (.loc 0) (.int 0)) (.bin .sub (.idx (.loc 0) (.int 1)) (.int 1))) ([.ref w, .int size] ++ List.replicate 0 .unb) σ (.int xs[k]) := fun hw hx =>
      Is.idxRo (i := (k : Int) + 1 - 1) (Is.idxList L0 Is.int hw (by decide) (by decide) rfl) (Is.sub (Is.idxList L0 Is.int hw (by decide) (by decide) rfl) Is.int) hx (by omega) (by omega) (by rw [show ((k : Int) + 1 - 1).toNat = k by omega]; exact hxk)
    refine seq_setidx (v := .int ((r * 37 + xs[k] + 11).fmod 9973)) (Is.mod (Is.add (Is.add (Is.mul (Is.idxList L0 Is.int w3 (by decide) (by decide) rfl) Is.int (mulSmall (by decide))) (D w3 x3)) Is.int) Is.int (by decide)) L0 Is.int w3 (by decide) (by decide) (by simp) nofun fun σ4 l4 => ?_
    have hr' : 0 ≤ (r * 37 + xs[k] + 11).fmod 9973 ∧ (r * 37 + xs[k] + 11).fmod 9973 < 9973 := ⟨Int.fmod_nonneg_of_pos _ (by decide), Int.fmod_lt_of_pos _ (by decide)⟩
    generalize (r * 37 + xs[k] + 11).fmod 9973 = r' at hr'
    generalize hσ5 : σ4.set w (.list ([AV.ref x, .int ((k : Int) + 1), .int r].set (2 : Int).toNat (.int r'))) = σ5
    have w5 : σ5 w = some (.list [AV.ref x, .int ((k : Int) + 1), .int r']) := by rw [← hσ5, AH.set_same]; rfl
    have x5 : σ5 x = some (.ro xs) := by rw [← hσ5, AH.set_ne _ _ hne']; exact l4.get x3
    have k5 : Kp [w] σ σ5 := (k3.trans l4.of).trans (by rw [← hσ5]; exact Kp.set _ (by first | exact .head _ | exact .tail _ (.head _) | simp))
    refine ret_is (Is.mod (D w5 x5) L1 (by omega)) fun σ6 l6 => ?_
    exact h _ σ6 (Int.fmod_nonneg_of_pos _ h0) (Int.fmod_lt_of_pos _ h0) (Well.at ⟨x, xs, k + 1, r', by rw [w5]; simp, x5, hne, by omega, hlen, hm, hr'.1, hr'.2⟩ l6) (k5.trans l6.of)
  · have w1 := l1.get hw
    have x1 := l1.get hx
    refine skip_next ?_
    refine seq_setidx (v := .int ((r * 37 + 11).fmod 9973)) (Is.mod (Is.add (Is.mul (Is.idxList L0 Is.int w1 (by decide) (by decide) rfl) Is.int (mulSmall (by decide))) Is.int) Is.int (by decide)) L0 Is.int w1 (by decide) (by decide) (by simp) nofun fun σ4 l4 => ?_
    have hr' : 0 ≤ (r * 37 + 11).fmod 9973 ∧ (r * 37 + 11).fmod 9973 < 9973 := ⟨Int.fmod_nonneg_of_pos _ (by decide), Int.fmod_lt_of_pos _ (by decide)⟩
    generalize (r * 37 + 11).fmod 9973 = r' at hr'
    generalize hσ5 : σ4.set w (.list ([AV.ref x, .int (k : Int), .int r].set (2 : Int).toNat (.int r'))) = σ5
    have w5 : σ5 w = some (.list [AV.ref x, .int (k : Int), .int r']) := by rw [← hσ5, AH.set_same]; rfl
    have x5 : σ5 x = some (.ro xs) := by rw [← hσ5, AH.set_ne _ _ hne']; exact l4.get x1
    have k5 : Kp [w] σ σ5 := (l1.trans l4).of.trans (by rw [← hσ5]; exact Kp.set _ (by first | exact .head _ | exact .tail _ (.head _) | simp))
    refine ret_is (Is.mod (Is.idxList L0 Is.int w5 (by decide) (by decide) rfl) L1 (by omega)) fun σ6 l6 => ?_
    exact h _ σ6 (Int.fmod_nonneg_of_pos _ h0) (Int.fmod_lt_of_pos _ h0) (Well.at ⟨x, xs, k, r', w5, x5, hne, hk, hlen, hm, hr'.1, hr'.2⟩ l6) (k5.trans l6.of)
end
end Nm
end

section
open PySem PySem.W PyProof.Rows
set_option tactic.hygienic false
set_option maxRecDepth 100000
set_option maxHeartbeats 2000000
set_option linter.unusedVariables false
set_option linter.unusedSimpArgs false
namespace Nm

noncomputable def hexAt (i : Int) : Nat := sHEX.getD i.toNat 0
noncomputable def figsF : Nat → Int → Int → List Nat → List Nat
  | 0, v, _, f => hexAt v :: f
  | k + 1, v, b, f => if b ≤ v then figsF k (v.fdiv b) b (hexAt (v.fmod b) :: f) else hexAt v :: f
noncomputable def figs (v b : Int) : List Nat := figsF 40 v b []
section
variable {C : CallT} {a b e : AE} {ρ : List AV} {σ : AH} {E : AH → Prop} {z : AV}
theorem hex_some {i : Int} (h0 : 0 ≤ i) (h : i < 16) : sHEX[i.toNat]? = some (hexAt i) := by
  unfold hexAt
  have : i.toNat < sHEX.length := by rw [show sHEX.length = 16 from rfl]; omega
  rw [List.getD_eq_getElem?_getD, List.getElem?_eq_getElem this]; rfl
theorem figs_loop {C : CallT} {b : Int} {R : SQ} (hb : 2 ≤ b) (hb' : b ≤ 16) : ∀ (k : Nat) (v : Int) (f : List Nat) (σ : AH), 0 ≤ v → v < 2 ^ (k + 1) → f.length + k ≤ 60 →
    (∀ v' f' σ', Al σ σ' → 0 ≤ v' → v' < b → f'.length ≤ 60 → hexAt v' :: f' = figsF k v b f → R .next [.int v', .int b, .str f'] σ') →
    whileN (fun ρ σ q => ewp C (.cmp .ge (.loc 0) (.loc 1)) ρ σ q E)
      (fun ρ σ q => swp C (.seq (.asg 2 (.bin .add (.idx (.str [48, 49, 50, 51, 52, 53, 54, 55, 56, 57, 97, 98, 99, 100, 101, 102]) (.bin .mod (.loc 0) (.loc 1))) (.loc 2)))
        (.seq (.asg 0 (.bin .fdiv (.loc 0) (.loc 1)))
        .skip)) ρ σ q E) R (k + 1) [.int v, .int b, .str f] σ := by
  intro k
  induction k with
  | zero =>
    intro v f σ h0 h1 hl hR
    have hvb : ¬ b ≤ v := by have : v < 2 := by simpa using h1
                             omega
    refine Is.go (Is.ge (p := v) (q := b) (Is.loc rfl nofun) (Is.loc rfl nofun)) fun σ1 l1 => ?_
    show (if decide (b ≤ v) = true then _ else _)
    rw [if_neg (by simpa using hvb)]
    exact hR v f σ1 l1 h0 (by omega) (by omega) rfl
  | succ k ih =>
    intro v f σ h0 h1 hl hR
    refine Is.go (Is.ge (p := v) (q := b) (Is.loc rfl nofun) (Is.loc rfl nofun)) fun σ1 l1 => ?_
    show (if decide (b ≤ v) = true then _ else _)
    by_cases hvb : b ≤ v
    · rw [if_pos (by simpa using hvb)]
      have m0 := Int.fmod_nonneg_of_pos v (show 0 < b by omega)
      have m1 := Int.fmod_lt_of_pos v (show 0 < b by omega)
      refine seq_let (x := .str ([hexAt (v.fmod b)] ++ f)) (Is.cat (Is.idxS (i := v.fmod b) (c := hexAt (v.fmod b)) Is.str (Is.mod (Is.loc rfl nofun) (Is.loc rfl nofun) (by omega)) m0 (by omega) (hex_some m0 (by omega))) (Is.loc rfl nofun) (by simp; omega)) nofun fun σ2 l2 => ?_
      refine seq_let (x := .int (v.fdiv b)) (Is.fdiv (p := v) (q := b) (Is.loc rfl nofun) (Is.loc rfl nofun) (by omega) ?_) nofun fun σ3 l3 => ?_
      · have : b.natAbs < 2 ^ 8999 := Nat.lt_of_lt_of_le (show b.natAbs < 2 ^ 5 by omega) (Nat.pow_le_pow_right (by decide) (by decide))
        have := (Nat.log2_lt (by omega)).mpr this
        omega
      · refine ih (v.fdiv b) (hexAt (v.fmod b) :: f) σ3 ?_ ?_ (by simp; omega) fun v' f' σ' l a1 a2 a3 a4 => hR v' f' σ' (((l1.trans l2).trans l3).trans l) a1 a2 a3 (by rw [a4, figsF, if_pos hvb])
        · rw [Int.fdiv_eq_ediv_of_nonneg _ (by omega)]; exact Int.ediv_nonneg h0 (by omega)
        · rw [Int.fdiv_eq_ediv_of_nonneg _ (by omega)]
          refine Int.ediv_lt_of_lt_mul (by omega) ?_
          have e : (2 : Int) ^ (k + 1 + 1) = 2 ^ (k + 1) * 2 := Int.pow_succ _ _
          have p : (0 : Int) < 2 ^ (k + 1) := Int.pow_pos (by decide)
          have : (2 : Int) ^ (k + 1) * 2 ≤ 2 ^ (k + 1) * b := Int.mul_le_mul_of_nonneg_left hb (by omega)
          omega
    · rw [if_neg (by simpa using hvb)]
      exact hR v f σ1 l1 h0 (by omega) (by omega) (by rw [figsF, if_neg hvb])
theorem figs_ok {b v : Int} {Q : VQ} {n : Nat} (hb : 2 ≤ b) (hb' : b ≤ 16) (h0 : 0 ≤ v) (h1 : v < 2 ^ 41) (h : ∀ σ', Al σ σ' → Q (.str (figs v b)) σ') : cwp theProg (n + 1) 13 [.int v, .int b] σ Q E := by
  refine defCall (fn := _) rfl rfl (by simp) ?_
  refine seq_let (x := .str []) Is.str nofun fun σ1 l1 => ?_
  refine ⟨41, figs_loop hb hb' 40 v [] σ1 h0 h1 (by simp) fun v' f' σ2 l2 a1 a2 a3 a4 => ?_⟩
  refine seq_ret (P := fun v _ => v = .str ([hexAt v'] ++ f')) (Is.cat (q := f') (Is.idxS (i := v') Is.str (Is.loc rfl nofun) a1 (by omega) (hex_some a1 (by omega))) (Is.loc rfl nofun) (by simp; omega)) ?_
  rintro _ σ3 l3 rfl
  have := h σ3 ((l1.trans l2).trans l3)
  unfold figs at this
  rw [← a4] at this
  exact this
end
end Nm
end

section
open PySem PySem.W PyProof.Rows
set_option tactic.hygienic false
set_option maxRecDepth 100000
set_option maxHeartbeats 2000000
set_option linter.unusedVariables false
set_option linter.unusedSimpArgs false
namespace Nm

noncomputable def sSIGNS : List Nat := sBEGINS ++ sDIGITS
noncomputable def inS (c : Nat) : Bool := sSIGNS.contains c
/-- the base and the figures of a number's text -/
noncomputable def numB (t : List Nat) : Int × List Nat :=
  if [[48, 120], [48, 88]].any (· == t.take 2) then (16, t.drop 2)
  else if [[48, 98], [48, 66]].any (· == t.take 2) then (2, t.drop 2)
  else if t.take 1 = [48] ∧ 1 < t.length then (8, t.drop 1) else (10, t)
noncomputable def numL (b : Int) : List Nat → Int → Option Int
  | [], v => some v
  | c :: cs, v => if placeOf c < 0 ∨ b ≤ placeOf c then none else numL b cs (v * b + placeOf c)
noncomputable def numV (t : List Nat) : Int := match numL (numB t).1 ((numB t).2.map lo1) 0 with
  | none => -1
  | some v => if (numB t).2 = [] then -1 else v
noncomputable def nearS (t : List Nat) : Bool := [[102], [98]].any (· == t.drop (t.length - 1)) && (Txt.isdigit ⟨(t.take (t.length - 1)).toArray⟩ && !Txt.startswith ⟨t.toArray⟩ ⟨[48, 98].toArray⟩)

noncomputable def lVALS : List Int := [0, 1, 2, 3, 7, 8, 31, 63, 64, 255, 4096, 65535, 1000000007]
noncomputable def leafOf (v : Int) : List (List Nat) := [figs v 10, [48, 120] ++ figs v 16, [48, 98] ++ figs v 2, [48] ++ if 0 < v then figs v 8 else []]
noncomputable def leafNums : List (Int × List Nat) := lVALS.flatMap fun v => (leafOf v).map fun t => (v, t)
noncomputable def headIn (l : List Nat) (t : List Nat) : Bool := match t with | [] => false | c :: _ => l.contains c
noncomputable def numOk (p : Int × List Nat) : Bool := !nearS p.2 && decide (numV p.2 = p.1) && p.2.all inS && headIn sDIGITS p.2 && decide (p.2.length ≤ 40) && decide (0 ≤ p.1) && decide (Builtin.Int.intBits p.1 ≤ 64) && p.2.all (decide <| · < 128)
theorem nums_ok : leafNums.all numOk = true := by decide +kernel

noncomputable def lNAMES : List (List Nat) := [[111, 110, 101], [95, 116, 119, 111, 46, 50], [97], [98]]
noncomputable def nameOk (t : List Nat) : Bool := t.all inS && headIn sBEGINS t && decide (t.length ≤ 40) && t.all (decide <| · < 128)
theorem names_ok : lNAMES.all nameOk = true := by decide +kernel
noncomputable def lSIGNS : List (List Nat) := pMARKS ++ [[126], [40], [41]]

/-- a lexeme -/
inductive Lx where | blank | num (v : Int) (t : List Nat) | quo (c : Nat) | name (s : List Nat) | sign (t : List Nat)
noncomputable def Lx.txt : Lx → List Nat | .blank => [32] | .num _ t => t | .quo c => [39, c, 39] | .name s => s | .sign t => t
noncomputable def Lx.tok : Lx → List Tk | .blank => [] | .num v _ => [.val ⟨[], [], v⟩] | .quo c => [.val ⟨[], [], c⟩] | .name s => [.val ⟨s, [], 0⟩] | .sign t => [.op t]
noncomputable def Lx.word : Lx → Bool | .num .. => true | .name _ => true | _ => false
noncomputable def Lx.good : Lx → Bool | .blank => true | .num v t => leafNums.contains (v, t) | .quo c => decide (97 ≤ c) && decide (c < 123) | .name s => lNAMES.contains s | .sign t => lSIGNS.contains t
noncomputable def txtL (xs : List Lx) : List Nat := xs.flatMap Lx.txt
noncomputable def tokL (xs : List Lx) : List Tk := xs.flatMap Lx.tok
noncomputable def noWord : List Lx → Bool | [] => true | a :: _ => !a.word
noncomputable def Adj : List Lx → Bool | [] => true | a :: r => (!a.word || noWord r) && Adj r
noncomputable def Fit (xs : List Lx) : Bool := Adj xs && xs.all Lx.good

theorem adj_app : ∀ {xs ys : List Lx}, Adj xs = true → Adj ys = true → noWord ys = true → Adj (xs ++ ys) = true
  | [], _, _, h, _ => h
  | a :: xs, ys, h, h', n => by
    simp only [Adj, List.cons_append, Bool.and_eq_true, Bool.or_eq_true] at h ⊢
    refine ⟨h.1.imp id fun q => ?_, adj_app h.2 h' n⟩
    cases xs with
    | nil => exact n
    | cons b xs => exact q
theorem fit_app {xs ys : List Lx} (h : Fit xs = true) (h' : Fit ys = true) (n : noWord ys = true) : Fit (xs ++ ys) = true := by
  simp only [Fit, Bool.and_eq_true] at h h' ⊢
  exact ⟨adj_app h.1 h'.1 n, by rw [List.all_append, h.2, h'.2]; rfl⟩
theorem fit_cons {a : Lx} {xs : List Lx} (ha : a.word = false) (g : a.good = true) (h : Fit xs = true) : Fit (a :: xs) = true := by
  simp only [Fit, Bool.and_eq_true, Adj, List.all_cons, ha, g, h, Bool.not_false, Bool.true_or, true_and] at h ⊢
  exact h
theorem fit_one {a : Lx} (g : a.good = true) : Fit [a] = true := by
  simp only [Fit, Adj, noWord, List.all_cons, g]; simp
theorem fit_tail {a : Lx} {xs : List Lx} (h : Fit (a :: xs) = true) : Fit xs = true ∧ a.good = true ∧ (a.word = true → noWord xs = true) := by
  simp only [Fit, Bool.and_eq_true, Adj, List.all_cons, Bool.or_eq_true, Bool.not_eq_true'] at h ⊢
  refine ⟨⟨h.1.2, h.2.2⟩, h.2.1, fun w => ?_⟩
  rcases h.1.1 with q | q
  · rw [w] at q; cases q
  · exact q
theorem txt_app (xs ys : List Lx) : txtL (xs ++ ys) = txtL xs ++ txtL ys := List.flatMap_append
theorem tok_app (xs ys : List Lx) : tokL (xs ++ ys) = tokL xs ++ tokL ys := List.flatMap_append
theorem txt_cons (x : Lx) (ys : List Lx) : txtL (x :: ys) = x.txt ++ txtL ys := List.flatMap_cons
theorem tok_cons (x : Lx) (ys : List Lx) : tokL (x :: ys) = x.tok ++ tokL ys := List.flatMap_cons

/-- what holds of a sign -/
noncomputable def signOk (t : List Nat) : Bool := headIn [43, 45, 42, 47, 37, 38, 124, 94, 126, 40, 41, 60, 62] t && t.all (decide <| · < 128) && decide (t.length ≤ 2) && !(headIn sSIGNS t)
theorem signs_ok : lSIGNS.all signOk = true := by decide +kernel

theorem num_facts {v : Int} {t : List Nat} (h : (Lx.num v t).good = true) : numOk (v, t) = true := by
  have h' : (v, t) ∈ leafNums := by simpa [Lx.good] using h
  exact List.all_eq_true.mp nums_ok _ h'
theorem name_facts {t : List Nat} (h : (Lx.name t).good = true) : nameOk t = true := by
  have h' : t ∈ lNAMES := by simpa [Lx.good] using h
  exact List.all_eq_true.mp names_ok _ h'
theorem sign_facts {t : List Nat} (h : (Lx.sign t).good = true) : signOk t = true := by
  have h' : t ∈ lSIGNS := by simpa [Lx.good] using h
  exact List.all_eq_true.mp signs_ok _ h'

theorem good_128 {a : Lx} (h : a.good = true) : ∀ c ∈ a.txt, c < 128 := by
  intro c m
  cases a with
  | blank => simp [Lx.txt] at m; omega
  | num v t =>
    have f := num_facts h
    simp only [numOk, Bool.and_eq_true] at f
    simpa using List.all_eq_true.mp f.2 c m
  | quo q =>
    simp only [Lx.good, Bool.and_eq_true, decide_eq_true_eq] at h
    simp only [Lx.txt, List.mem_cons, List.not_mem_nil, or_false] at m
    omega
  | name s =>
    have f := name_facts h
    simp only [nameOk, Bool.and_eq_true] at f
    simpa using List.all_eq_true.mp f.2 c m
  | sign t =>
    have f := sign_facts h
    simp only [signOk, Bool.and_eq_true] at f
    simpa using List.all_eq_true.mp f.1.1.2 c m
theorem fit_128 : ∀ {xs : List Lx}, Fit xs = true → ∀ c ∈ txtL xs, c < 128
  | [], _, c, m => by cases m
  | a :: xs, h, c, m => by
    have f := fit_tail h
    rw [txt_cons, List.mem_append] at m
    rcases m with m | m
    · exact good_128 f.2.1 c m
    · exact fit_128 f.1 c m
/-- the signs of a name that a text begins with -/
theorem run_none {xs : List Lx} (h : Fit xs = true) (n : noWord xs = true) : (txtL xs).takeWhile inS = [] := by
  cases xs with
  | nil => rfl
  | cons a xs =>
    have f := fit_tail h
    have key : ∀ c r, inS c = false → (c :: r).takeWhile inS = [] := fun c r e => by rw [List.takeWhile_cons, e]; rfl
    rw [txt_cons]
    cases a with
    | blank => exact key _ _ (by decide +kernel)
    | num v t => cases n
    | quo q => exact key _ _ (by decide +kernel)
    | name s => cases n
    | sign t =>
      have g := sign_facts f.2.1
      simp only [signOk, Bool.and_eq_true] at g
      cases t with
      | nil => exact absurd g.2 (by have := g.1.1.1; simp [headIn] at this)
      | cons c t => exact key _ _ (by simpa [headIn, inS] using g.2)
theorem run_word {a : Lx} {xs : List Lx} (h : Fit (a :: xs) = true) (w : a.word = true) : (txtL (a :: xs)).takeWhile inS = a.txt := by
  have f := fit_tail h
  have hall : a.txt.all inS = true := by
    cases a with
    | num v t =>
      have g := num_facts f.2.1
      simp only [numOk, Bool.and_eq_true] at g
      exact g.1.1.1.1.1.2
    | name s =>
      have g := name_facts f.2.1
      simp only [nameOk, Bool.and_eq_true] at g
      exact g.1.1.1
    | _ => cases w
  rw [txt_cons, List.takeWhile_append_of_pos (fun c m => List.all_eq_true.mp hall c m), run_none f.1 (f.2.2 w), List.append_nil]
noncomputable def lPARTS2 : List (List Nat) := [[37, 104, 105], [37, 108, 111], [37, 112, 99, 114, 101, 108, 95, 104, 105], [37, 112, 99, 114, 101, 108, 95, 108, 111]]
theorem no_part {xs : List Lx} (h : Fit xs = true) : lPARTS2.any (· == 37 :: (txtL xs).takeWhile inS) = false := by
  have hn : leafNums.all (fun p => !lPARTS2.any (· == 37 :: p.2)) = true := by decide +kernel
  have hm : lNAMES.all (fun p => !lPARTS2.any (· == 37 :: p)) = true := by decide +kernel
  cases xs with
  | nil => decide
  | cons a xs =>
    cases hw : a.word with
    | false => rw [run_none h (by simp [noWord, hw])]; decide
    | true =>
      rw [run_word h hw]
      have f := (fit_tail h).2.1
      cases a with
      | num v t =>
        have h' : (v, t) ∈ leafNums := by simpa [Lx.good] using f
        simpa [Lx.txt] using List.all_eq_true.mp hn _ h'
      | name s =>
        have h' : s ∈ lNAMES := by simpa [Lx.good] using f
        simpa [Lx.txt] using List.all_eq_true.mp hm _ h'
      | _ => cases hw

/-- the rows that are no expression -/
noncomputable def illL : List (List Lx) :=
  let n1 : Lx := .num 1 [49]
  let n2 : Lx := .num 2 [50]
  let n3 : Lx := .num 3 [51]
  let o : Lx := .sign [40]
  let c : Lx := .sign [41]
  let p : Lx := .sign [43]
  let b : Lx := .blank
  let m : Lx := .sign [42]
  [[], [p], [n1, b, p], [o, n1], [n1, c], [m, b, n2], [n1, b, n2], [o, c], [o, n1, b, p, b, c], [n1, b, .sign [126], b, n2], [.name [97], b, .name [98]], [n1, b, o, n2, c], [o, o, n3, c], [.sign [45]], [n1, b, p, b, m, b, n2]]
noncomputable def lILL2 : List (List Nat) := [[], [43], [49, 32, 43], [40, 49], [49, 41], [42, 32, 50], [49, 32, 50], [40, 41], [40, 49, 32, 43, 32, 41], [49, 32, 126, 32, 50], [97, 32, 98], [49, 32, 40, 50, 41], [40, 40, 51, 41], [45], [49, 32, 43, 32, 42, 32, 50]]
theorem ill_txt : illL.map txtL = lILL2 := by decide +kernel
theorem ill_ok : illL.all (fun xs => Fit xs && decide (parseS (tokL xs) = none) && decide ((txtL xs).length ≤ 100) && decide ((tokL xs).length ≤ 100)) = true := by decide +kernel
end Nm
end

section
open PySem PySem.W PyProof.Rows
set_option tactic.hygienic false
set_option maxRecDepth 100000
set_option maxHeartbeats 2000000
set_option linter.unusedVariables false
set_option linter.unusedSimpArgs false
namespace Nm

/-- a leaf's value and text -/
noncomputable def LeafOK (v : Int) (t : List Nat) : Prop := (v, t) ∈ leafNums ∨ ∃ c : Nat, 97 ≤ c ∧ c < 123 ∧ v = c ∧ t = [39, c, 39]
noncomputable def Tr.ok : Tr → Prop
  | .num v t => LeafOK v t
  | .name s => s ∈ lNAMES
  | .ahead c t => (c = 43 ∨ c = 45 ∨ c = 126) ∧ ok t
  | .both m l r => m ∈ pMARKS ∧ ok l ∧ ok r
theorem ok_okS : ∀ {t : Tr}, t.ok → t.okS
  | .num .., _ => trivial
  | .name s, h => (show ∀ s ∈ lNAMES, s ≠ [] by decide +kernel) s h
  | .ahead c t, ⟨h, h'⟩ => ⟨h, ok_okS h'⟩
  | .both m l r, ⟨h, h1, h2⟩ => ⟨h, ok_okS h1, ok_okS h2⟩

theorem nodes_pos (t : Tr) : 1 ≤ t.nodes := by cases t <;> simp [Tr.nodes]
theorem sign_good {t : List Nat} (h : t ∈ lSIGNS) : (Lx.sign t).good = true := by simpa [Lx.good] using h
theorem mark_sign {m : List Nat} (h : m ∈ pMARKS) : m ∈ lSIGNS := by simp [lSIGNS, h]
theorem mark_len : ∀ m ∈ pMARKS, m.length ≤ 2 := by decide +kernel
/-- a blank's lexemes -/
theorem blank_lex {b : List Nat} (h : Blank b) : ∃ bs : List Lx, (∀ x ∈ bs, x = .blank) ∧ txtL bs = b ∧ tokL bs = [] ∧ b.length ≤ 1 := by
  rcases h with rfl | rfl
  · exact ⟨[], by simp, rfl, rfl, by simp⟩
  · exact ⟨[.blank], by simp, rfl, rfl, by simp⟩
theorem blank_fit : ∀ {bs : List Lx} {xs : List Lx}, (∀ x ∈ bs, x = .blank) → Fit xs = true → Fit (bs ++ xs) = true
  | [], _, _, h => h
  | b :: bs, xs, hb, h => by
    have : b = .blank := hb b (by simp)
    subst this
    exact fit_cons rfl rfl (blank_fit (fun x m => hb x (by simp [m])) h)
theorem blank_now : ∀ {bs : List Lx} {xs : List Lx}, (∀ x ∈ bs, x = .blank) → noWord xs = true → noWord (bs ++ xs) = true
  | [], _, _, h => h
  | b :: bs, xs, hb, h => by
    have : b = .blank := hb b (by simp)
    subst this
    rfl
noncomputable def LexOf (x : List Nat) (k : List Tk) (n : Nat) (j : Nat) : Prop := ∃ xs, Fit xs = true ∧ txtL xs = x ∧ tokL xs = k ∧ x.length + 4 * j ≤ 44 * n ∧ k.length + 2 * j ≤ 3 * n
theorem wrp_lex {t : Tr} {least : Int} {x : List Nat} {k : List Tk} (h : WrP (fun x k => Bd t x k) t.rank least x k) (ih : ∀ x k, Bd t x k → LexOf x k t.nodes 1) : LexOf x k t.nodes 0 := by
  rcases h with ⟨_, h2⟩ | ⟨b, y, j, hb, h2, rfl, rfl⟩
  · obtain ⟨xs, h1, h2, h3, h4, h5⟩ := ih x k h2
    exact ⟨xs, h1, h2, h3, by omega, by omega⟩
  · obtain ⟨xs, f, rfl, rfl, h4, h5⟩ := ih y j h2
    obtain ⟨bs, b1, rfl, b3, b4⟩ := blank_lex hb
    refine ⟨.sign [40] :: (bs ++ (xs ++ (bs ++ [.sign [41]]))), ?_, ?_, ?_, ?_, ?_⟩
    · exact fit_cons rfl (by decide) (blank_fit b1 (fit_app f (blank_fit b1 (fit_one (by decide))) (blank_now b1 rfl)))
    · simp [txt_cons, txt_app, Lx.txt]; rfl
    · simp [tok_cons, tok_app, Lx.tok, b3]; rfl
    · simp only [List.length_append, List.length_cons, List.length_nil]; omega
    · simp only [List.length_append, List.length_cons, List.length_nil]; omega
theorem bd_lex : ∀ (t : Tr), t.ok → ∀ x k, Bd t x k → LexOf x k t.nodes 1
  | .num v tx, h, x, k, hb => by
    obtain ⟨rfl, rfl⟩ := hb
    rcases h with h | ⟨c, h1, h2, rfl, rfl⟩
    · have g : (Lx.num v x).good = true := by simpa [Lx.good] using h
      have f := num_facts g
      simp only [numOk, Bool.and_eq_true, decide_eq_true_eq] at f
      refine ⟨[.num v x], fit_one g, by simp [txtL, Lx.txt], by simp [tokL, Lx.tok], ?_, ?_⟩
      · have := f.1.1.1.2; simp only [Tr.nodes]; omega
      · simp [Tr.nodes]
    · refine ⟨[.quo c], fit_one (by simp [Lx.good, h1, h2]), by simp [txtL, Lx.txt], by simp [tokL, Lx.tok], by simp [Tr.nodes], by simp [Tr.nodes]⟩
  | .name s, h, x, k, hb => by
    obtain ⟨rfl, rfl⟩ := hb
    have g : (Lx.name x).good = true := by simpa [Lx.good, Tr.ok] using h
    have f := name_facts g
    simp only [nameOk, Bool.and_eq_true, decide_eq_true_eq] at f
    refine ⟨[.name x], fit_one g, by simp [txtL, Lx.txt], by simp [tokL, Lx.tok], ?_, ?_⟩
    · have := f.1.2; simp only [Tr.nodes]; omega
    · simp [Tr.nodes]
  | .ahead c t, ⟨hc, ok⟩, x, k, hb => by
    obtain ⟨b, y, j, hbl, h, rfl, rfl⟩ := hb
    obtain ⟨xs, f, rfl, rfl, h4, h5⟩ := wrp_lex h (bd_lex t ok)
    obtain ⟨bs, b1, rfl, b3, b4⟩ := blank_lex hbl
    refine ⟨.sign [c] :: (bs ++ xs), ?_, ?_, ?_, ?_, ?_⟩
    · exact fit_cons rfl (by rcases hc with rfl | rfl | rfl <;> decide) (blank_fit b1 f)
    · simp [txt_cons, txt_app, Lx.txt]
    · simp [tok_cons, tok_app, Lx.tok, b3]
    · simp only [List.length_append, List.length_cons, List.length_nil, Tr.nodes]; omega
    · simp only [List.length_cons, Tr.nodes]; omega
  | .both m l r, ⟨hm, okl, okr⟩, x, k, hb => by
    obtain ⟨b, y, j, z, i, hbl, hl, hr, rfl, rfl⟩ := hb
    obtain ⟨xs, f, rfl, rfl, h4, h5⟩ := wrp_lex hl (bd_lex l okl)
    obtain ⟨ys, g, rfl, rfl, h6, h7⟩ := wrp_lex hr (bd_lex r okr)
    obtain ⟨bs, b1, rfl, b3, b4⟩ := blank_lex hbl
    have ml := mark_len m hm
    refine ⟨xs ++ (bs ++ (.sign m :: (bs ++ ys))), ?_, ?_, ?_, ?_, ?_⟩
    · exact fit_app f (blank_fit b1 (fit_cons rfl (sign_good (mark_sign hm)) (blank_fit b1 g))) (blank_now b1 rfl)
    · simp [txt_cons, txt_app, Lx.txt]
    · simp [tok_cons, tok_app, Lx.tok, b3]
    · simp only [List.length_append, List.length_cons, List.length_nil, Tr.nodes]; omega
    · simp only [List.length_append, List.length_cons, List.length_nil, Tr.nodes]; omega
theorem wr_lex {t : Tr} (h : t.ok) {x : List Nat} {k : List Tk} (hw : Wr t 0 x k) : LexOf x k t.nodes 0 := wrp_lex hw (bd_lex t h)

/-- the sizes of a lexed text's words -/
theorem tok_val {xs : List Lx} (h : Fit xs = true) {v : Sm} (m : Tk.val v ∈ tokL xs) : Sml v ∧ wt v ≤ 70 := by
  simp only [Fit, Bool.and_eq_true] at h
  unfold tokL at m
  obtain ⟨a, ma, m⟩ := List.mem_flatMap.mp m
  have g := List.all_eq_true.mp h.2 a ma
  cases a with
  | blank => cases m
  | num i t =>
    have f := num_facts g
    simp only [numOk, Bool.and_eq_true, decide_eq_true_eq] at f
    simp only [Lx.tok, List.mem_cons, List.not_mem_nil, or_false] at m
    cases m
    exact ⟨⟨by simp, by simp⟩, by show Builtin.Int.intBits i ≤ 70; have := f.1.2; omega⟩
  | quo c =>
    simp only [Lx.tok, List.mem_cons, List.not_mem_nil, or_false] at m
    simp only [Lx.good, Bool.and_eq_true, decide_eq_true_eq] at g
    cases m
    refine ⟨⟨by simp, by simp⟩, ?_⟩
    show Builtin.Int.intBits (c : Int) ≤ 70
    refine intBits_le_iff.mpr (Nat.lt_of_lt_of_le (show (c : Int).natAbs < 2 ^ 7 by omega) (Nat.pow_le_pow_right (by decide) (by decide)))
  | name s =>
    have f := name_facts g
    simp only [nameOk, Bool.and_eq_true, decide_eq_true_eq] at f
    simp only [Lx.tok, List.mem_cons, List.not_mem_nil, or_false] at m
    cases m
    exact ⟨⟨by have := f.1.2; show s.length ≤ 1000; omega, by simp⟩, by show Builtin.Int.intBits 0 ≤ 70; decide⟩
  | sign t => simp only [Lx.tok, List.mem_cons, List.not_mem_nil, or_false] at m; cases m
theorem tok_op {xs : List Lx} (h : Fit xs = true) {t : List Nat} (m : Tk.op t ∈ tokL xs) : t.length ≤ 1000 := by
  simp only [Fit, Bool.and_eq_true] at h
  unfold tokL at m
  obtain ⟨a, ma, m⟩ := List.mem_flatMap.mp m
  have g := List.all_eq_true.mp h.2 a ma
  cases a with
  | sign t =>
    have f := sign_facts g
    simp only [signOk, Bool.and_eq_true, decide_eq_true_eq] at f
    simp only [Lx.tok, List.mem_cons, List.not_mem_nil, or_false] at m
    cases m
    have := f.1.2; omega
  | _ => simp [Lx.tok] at m
/-- a tree's size in bits -/
noncomputable def Tr.bits : Tr → Nat | .num v _ => Builtin.Int.intBits v | .name _ => 0 | .ahead _ t => bits t + 70 | .both _ l r => bits l + bits r + 70
theorem value_bits : ∀ (t : Tr) (v : Sm), t.value = some v → wt v ≤ t.bits
  | .num n _, v, h => by cases h; exact Nat.le_refl _
  | .name s, v, h => by cases h; show Builtin.Int.intBits 0 ≤ 0; decide
  | .ahead c t, v, h => by
    simp only [Tr.value] at h
    cases e : t.value with
    | none => rw [e] at h; cases h
    | some u =>
      have iu := value_bits t u e
      rw [e] at h
      simp only [Option.bind_some] at h
      have z0 : wt ⟨[], [], 0⟩ = 0 := by decide
      have z1 : wt ⟨[], [], -1⟩ = 1 := by decide
      simp only [Tr.bits]
      split at h
      · cases h; omega
      · split at h
        · have := work_bits h; omega
        · have := work_bits h; omega
  | .both m l r, v, h => by
    simp only [Tr.value] at h
    cases e : l.value with
    | none => rw [e] at h; cases h
    | some u =>
      cases e' : r.value with
      | none => rw [e, e'] at h; cases h
      | some w =>
        rw [e, e'] at h
        have iu := value_bits l u e
        have iw := value_bits r w e'
        have := work_bits (show workS m u w = some v from h)
        simp only [Tr.bits]; omega
theorem bits_le : ∀ (t : Tr), t.ok → t.bits ≤ 70 * t.nodes
  | .num v t, h => by
    simp only [Tr.bits, Tr.nodes]
    rcases h with h | ⟨c, h1, h2, rfl, rfl⟩
    · have g : (Lx.num v t).good = true := by simpa [Lx.good] using h
      have f := num_facts g
      simp only [numOk, Bool.and_eq_true, decide_eq_true_eq] at f
      have := f.1.2; omega
    · refine intBits_le_iff.mpr (Nat.lt_of_lt_of_le (show (c : Int).natAbs < 2 ^ 7 by omega) (Nat.pow_le_pow_right (by decide) (by decide)))
  | .name s, _ => by simp [Tr.bits]
  | .ahead c t, ⟨_, h⟩ => by have := bits_le t h; simp only [Tr.bits, Tr.nodes]; omega
  | .both m l r, ⟨_, h, h'⟩ => by have := bits_le l h; have := bits_le r h'; simp only [Tr.bits, Tr.nodes]; omega
end Nm
end

section
open PySem PySem.W PyProof.Rows
set_option tactic.hygienic false
set_option maxRecDepth 100000
set_option maxHeartbeats 2000000
set_option linter.unusedVariables false
set_option linter.unusedSimpArgs false
namespace Nm

noncomputable def wNUM : List Nat := [110, 117, 109, 98, 101, 114]
noncomputable def wNAME : List Nat := [110, 97, 109, 101]
noncomputable def wAHEAD : List Nat := [97, 104, 101, 97, 100]
noncomputable def wBOTH : List Nat := [98, 111, 116, 104]
/-- a tree laid out in tuples -/
noncomputable def TreeAt (σ : AH) : Nat → Tr → Prop
  | a, .num v t => σ a = some (.tup [.str wNUM, .int v, .str t])
  | a, .name s => σ a = some (.tup [.str wNAME, .str s, .str []])
  | a, .ahead c t => ∃ b, σ a = some (.tup [.str wAHEAD, .str [c], .ref b]) ∧ TreeAt σ b t
  | a, .both m l r => ∃ b c, σ a = some (.tup [.str wBOTH, .str m, .ref b, .ref c]) ∧ TreeAt σ b l ∧ TreeAt σ c r
theorem TreeAt.mono {l : List Nat} {σ σ' : AH} (k : Kp l σ σ') (n : NotLists l σ) : ∀ {t : Tr} {a : Nat}, TreeAt σ a t → TreeAt σ' a t
  | .num .., a, h => k _ _ (n.no (by nofun) h) h
  | .name _, a, h => k _ _ (n.no (by nofun) h) h
  | .ahead c t, a, ⟨b, h, h'⟩ => ⟨b, k _ _ (n.no (by nofun) h) h, TreeAt.mono k n h'⟩
  | .both m l r, a, ⟨b, c, h, h1, h2⟩ => ⟨b, c, k _ _ (n.no (by nofun) h) h, TreeAt.mono k n h1, TreeAt.mono k n h2⟩
theorem TreeAt.al {σ σ' : AH} (k : Al σ σ') {t : Tr} {a : Nat} (h : TreeAt σ a t) : TreeAt σ' a t := TreeAt.mono k (by intro a m; cases m) h
theorem Well.lists {w : Nat} {σ : AH} (h : Well w σ) : NotLists [w] σ := by
  intro a m
  simp only [List.mem_cons, List.not_mem_nil, or_false] at m
  subst m
  obtain ⟨x, xs, k, r, h1, _⟩ := h
  exact ⟨_, h1⟩
section
variable {C : CallT} {a b c e : AE} {ρ : List AV} {σ : AH} {E : AH → Prop} {x y z u : AV} {Q : SQ} {s : AS}
theorem seq_asgE {i : Nat} (k : ewp C e ρ σ (fun v σ₁ => v ≠ .unb ∧ swp C s (ρ.set i v) σ₁ Q E) E) : swp C (.seq (.asg i e) s) ρ σ Q E := k
theorem seq_retE (k : ewp C e ρ σ (fun v σ₁ => Q (.ret v) ρ σ₁) E) : swp C (.seq (.ret e) s) ρ σ Q E := k
theorem idxE {K : VQ} (k : ewp C a ρ σ (fun x σ₁ => ewp C b ρ σ₁ (fun y σ₂ => idxV x y σ₂ K) E) E) : ewp C (.idx a b) ρ σ K E := k
theorem tup2S {K : VQ} {p q : List Nat} (k : newO σ (.tup [.str p, .str q]) K) : ewp C (.tup2 (.str p) (.str q)) ρ σ K E := k
theorem tupIE {K : VQ} {l : List Int} (k : newO σ (.tup (l.map .int)) K) : ewp C (.tupI l) ρ σ K E := k
theorem Ev.tup3 (h : Is C a ρ σ x) (h' : Is C b ρ σ y) (h'' : Is C c ρ σ z) : Ev C (.tup3 a b c) ρ σ fun v σ' => ∃ r, v = .ref r ∧ σ' r = some (.tup [x, y, z]) := fun σ₀ l K E k => by
  refine h σ₀ l _ E fun v σ' l' e => ?_
  subst e
  refine h' σ' (l.trans l') _ E fun v σ₂ l₂ e => ?_
  subst e
  refine h'' σ₂ ((l.trans l').trans l₂) _ E fun v σ₃ l₃ e => ?_
  subst e
  exact new fun c σ₄ _ hc l₄ => k _ σ₄ (((l'.trans l₂).trans l₃).trans l₄) ⟨c, rfl, hc⟩
theorem Is.figs {n : Nat} {v i : Int} (h : Is (cwp theProg (n + 1)) a ρ σ (.int v)) (h' : Is (cwp theProg (n + 1)) b ρ σ (.int i)) (hb : 2 ≤ i) (hb' : i ≤ 16) (h0 : 0 ≤ v) (h1 : v < 2 ^ 41) :
    Is (cwp theProg (n + 1)) (.call2 13 a b) ρ σ (.str (figs v i)) := fun σ₀ l K E k =>
  call2_ok (h.at l) (h'.at l) fun σ' l' => figs_ok hb hb' h0 h1 fun σ'' l'' => k _ σ'' (l'.trans l'') rfl
theorem Is.chr {i : Int} (h : Is C a ρ σ (.int i)) (h0 : 0 ≤ i) (h1 : i ≤ 1114111) : Is C (.b1 .chr a) ρ σ (.str [i.toNat]) := h.ofB1 fun _ _ _ k => ⟨i, rfl, h0, h1, k⟩
theorem Is.idxT2 {p q : List Nat} {i : Int} (h : Is C e ρ σ (.int i)) (hi : i = 0 ∨ i = 1) : Is C (.idx (.tup2 (.str p) (.str q)) e) ρ σ (.str (if i = 0 then p else q)) := fun σ₀ l K E k => by
  refine idxE (tup2S (new fun c σ' _ hc l' => ?_))
  refine h σ' (l.trans l') _ E fun v σ'' l'' ev => ?_
  subst ev
  refine idx_tup (l''.get hc) (by omega) (by omega) (x := .str (if i = 0 then p else q)) ?_ (k _ _ (l'.trans l'') rfl)
  rcases hi with rfl | rfl <;> rfl
theorem draw_call {n w : Nat} {size : Int} {K : VQ} (W : Well w σ) (h : Is (cwp theProg (n + 1)) a ρ σ (.ref w)) (h' : Is (cwp theProg (n + 1)) b ρ σ (.int size)) (h0 : 0 < size) (k : ∀ d σ', 0 ≤ d → d < size → Well w σ' → Kp [w] σ σ' → K (.int d) σ') :
    ewp (cwp theProg (n + 1)) (.call2 12 a b) ρ σ K E := call2_ok h h' fun σ' l => draw_ok (W.at l) h0 (fun d σ'' d0 d1 W' k' => k d σ'' d0 d1 W' (l.of.trans k')) n
theorem figs_small : ∀ v ∈ lVALS, ∀ b ∈ [(16 : Int), 2, 8], 2 + (figs v b).length ≤ 1000000 := by decide +kernel
theorem vals_ok : ∀ v ∈ lVALS, 0 ≤ v ∧ v < 2 ^ 41 ∧ v < 1000000000000 := by decide +kernel
theorem leaf_mem {v : Int} {t : List Nat} (hv : v ∈ lVALS) (ht : t ∈ leafOf v) : LeafOK v t := .inl (List.mem_flatMap.mpr ⟨v, hv, List.mem_map.mpr ⟨t, ht, rfl⟩⟩)
theorem val_at {d : Int} (d0 : 0 ≤ d) (d1 : d < 13) : ∃ v, v ∈ lVALS ∧ (lVALS.map AV.int)[d.toNat]? = some (.int v) := by
  have hl : d.toNat < lVALS.length := by rw [show lVALS.length = 13 from rfl]; omega
  exact ⟨lVALS[d.toNat], List.getElem_mem hl, by rw [List.getElem?_map, List.getElem?_eq_getElem hl]; rfl⟩

theorem leaf_ok {n w : Nat} {Q : VQ} (W : Well w σ) (h : ∀ r T σ', Well w σ' → Kp [w] σ σ' → TreeAt σ' r T → T.ok → T.nodes = 1 → Q (.ref r) σ') : cwp theProg (n + 2) 14 [.ref w] σ Q E := by
  refine defCall (fn := _) rfl rfl (by simp) ?_
  refine seq_asgE (draw_call W (Is.loc rfl nofun) Is.int (by decide) fun f σ1 f0 f1 W1 k1 => ⟨nofun, ?_⟩)
  show swp _ _ [.ref w, .int f, .unb] σ1 _ E
  refine seq_asgE ?_
  refine idxE (tupIE (new fun t σ2 _ ht l2 => ?_))
  refine draw_call (W1.at l2) (Is.loc rfl nofun) Is.int (by decide) fun d σ3 d0 d1 W3 k3 => ?_
  have ht3 : σ3 t = _ := k3 _ _ ((W1.at l2).lists.no (by nofun) ht) ht
  obtain ⟨v, hv, hd⟩ := val_at d0 d1
  obtain ⟨v0, v1, v2⟩ := vals_ok v hv
  refine idx_tup ht3 d0 (by omega) hd ⟨nofun, ?_⟩
  show swp _ _ [.ref w, .int f, .int v] σ3 _ E
  have k13 : Kp [w] σ σ3 := (k1.trans l2.of).trans k3
  have L1 : ∀ {C : CallT} {σ : AH}, Is C (.loc 1) [.ref w, .int f, .int v] σ (.int f) := Is.loc rfl nofun
  have L2 : ∀ {C : CallT} {σ : AH}, Is C (.loc 2) [.ref w, .int f, .int v] σ (.int v) := Is.loc rfl nofun
  -- a number is given back
  have done : ∀ {σ4 : AH} {v' : Int} {t' : List Nat} {e1 e2 : AE} {s : AS} {E : AH → Prop}, Al σ3 σ4 → LeafOK v' t' → Is (cwp theProg (n + 1)) e1 [.ref w, .int f, .int v] σ4 (.int v') → Is (cwp theProg (n + 1)) e2 [.ref w, .int f, .int v] σ4 (.str t') →
      swp (cwp theProg (n + 1)) (.seq (.ret (.tup3 (.str [110, 117, 109, 98, 101, 114]) e1 e2)) s) [.ref w, .int f, .int v] σ4 (fun o _ σ' => Q o.val σ') E := fun l4 hl h1 h2 => by
    refine seq_ret (Ev.tup3 Is.str h1 h2) ?_
    rintro _ σ5 l5 ⟨r, rfl, hr⟩
    exact h r (.num _ _) σ5 (W3.at (l4.trans l5)) (k13.trans (l4.trans l5).of) hr hl rfl
  refine seq_ite (Is.lt L1 Is.int) (fun e σ4 l4 => ?_) fun e σ4 l4 => ?_
  · exact done l4 (leaf_mem hv (t := figs v 10) (by simp [leafOf])) L2 (Is.figs L2 Is.int (by decide) (by decide) v0 v1)
  refine seq_ite (Is.eqI L1 Is.int) (fun e σ5 l5 => ?_) fun e σ5 l5 => ?_
  · exact done (l4.trans l5) (leaf_mem hv (t := [48, 120] ++ figs v 16) (by simp [leafOf])) L2 (Is.cat Is.str (Is.figs L2 Is.int (by decide) (by decide) v0 v1) (figs_small v hv 16 (by decide)))
  refine seq_ite (Is.eqI L1 Is.int) (fun e σ6 l6 => ?_) fun e σ6 l6 => ?_
  · exact done ((l4.trans l5).trans l6) (leaf_mem hv (t := [48, 98] ++ figs v 2) (by simp [leafOf])) L2 (Is.cat Is.str (Is.figs L2 Is.int (by decide) (by decide) v0 v1) (figs_small v hv 2 (by decide)))
  have l46 := (l4.trans l5).trans l6
  refine seq_ite (Is.eqI L1 Is.int) (fun e σ7 l7 => ?_) fun e σ7 l7 => ?_
  · refine done (l46.trans l7) (leaf_mem hv (t := [48] ++ if 0 < v then figs v 8 else []) (by simp [leafOf])) L2 (Is.cat Is.str (Is.ife (Is.gt L2 Is.int) (fun e => ?_) fun e => ?_) ?_)
    · rw [if_pos (by simpa using e)]; exact Is.figs L2 Is.int (by decide) (by decide) v0 v1
    · rw [if_neg (by simpa using e)]; exact Is.str
    · have := figs_small v hv 8 (by decide)
      split
      · simp only [List.length_cons, List.length_nil] at this ⊢; omega
      · simp
  have l47 := l46.trans l7
  have m0 := Int.fmod_nonneg_of_pos v (show (0 : Int) < 26 by decide)
  have m1 := Int.fmod_lt_of_pos v (show (0 : Int) < 26 by decide)
  refine seq_ite (Is.eqI L1 Is.int) (fun e σ8 l8 => ?_) fun e σ8 l8 => ?_
  · refine done (l47.trans l8) (v' := 97 + v.fmod 26) (t' := [39] ++ [(97 + v.fmod 26).toNat] ++ [39]) (.inr ⟨(97 + v.fmod 26).toNat, by omega, by omega, by omega, rfl⟩) (Is.add Is.int (Is.mod L2 Is.int (by decide))) ?_
    exact Is.cat (Is.cat Is.str (Is.chr (Is.add Is.int (Is.mod L2 Is.int (by decide))) (by omega) (by omega)) (by simp)) Is.str (by simp)
  refine skip_next ?_
  refine seq_ret (Ev.tup3 Is.str (Is.idxT2 (Is.mod L2 Is.int (by decide)) (i := v.fmod 2) (by
    have := Int.fmod_nonneg_of_pos v (show (0 : Int) < 2 by decide)
    have := Int.fmod_lt_of_pos v (show (0 : Int) < 2 by decide)
    omega)) Is.str) ?_
  rintro _ σ9 l9 ⟨r, rfl, hr⟩
  have l49 := (l47.trans l8).trans l9
  refine h r (.name _) σ9 (W3.at l49) (k13.trans l49.of) hr ?_ rfl
  show (if v.fmod 2 = 0 then _ else _) ∈ lNAMES
  split <;> decide
end
end Nm
end

section
open PySem PySem.W PyProof.Rows
set_option tactic.hygienic false
set_option maxRecDepth 100000
set_option maxHeartbeats 2000000
set_option linter.unusedVariables false
set_option linter.unusedSimpArgs false
namespace Nm
section
variable {C : CallT} {a b c d e : AE} {ρ : List AV} {σ : AH} {E : AH → Prop} {x y z u : AV} {Q : SQ} {s s' t : AS} {K : VQ}
theorem tup3E (k : ewp C a ρ σ (fun x σ₁ => ewp C b ρ σ₁ (fun y σ₂ => ewp C c ρ σ₂ (fun z σ₃ => newO σ₃ (.tup [x, y, z]) K) E) E) E) : ewp C (.tup3 a b c) ρ σ K E := k
theorem tup4E (k : ewp C a ρ σ (fun x σ₁ => ewp C b ρ σ₁ (fun y σ₂ => ewp C c ρ σ₂ (fun z σ₃ => ewp C d ρ σ₃ (fun u σ₄ => newO σ₄ (.tup [x, y, z, u]) K) E) E) E) E) : ewp C (.tup4 a b c d) ρ σ K E := k
theorem strE {p : List Nat} (k : K (.str p) σ) : ewp C (.str p) ρ σ K E := k
theorem intE {p : Int} (k : K (.int p) σ) : ewp C (.int p) ρ σ K E := k
theorem cmpE {o : COp} (k : ewp C a ρ σ (fun x σ₁ => ewp C b ρ σ₁ (fun y σ₂ => cmpV o x y σ₂ K) E) E) : ewp C (.cmp o a b) ρ σ K E := k
theorem binE {o : BOp} (k : ewp C a ρ σ (fun x σ₁ => ewp C b ρ σ₁ (fun y σ₂ => binV o x y σ₂ K) E) E) : ewp C (.bin o a b) ρ σ K E := k
theorem orE (k : ewp C a ρ σ (fun x σ₁ => truV x fun g => if g then K x σ₁ else ewp C b ρ σ₁ K E) E) : ewp C (.or a b) ρ σ K E := k
theorem iteE (k : ewp C c ρ σ (fun v σ₁ => truV v fun b => if b then swp C s ρ σ₁ (aft C t Q E) E else swp C s' ρ σ₁ (aft C t Q E) E) E) :
    swp C (.seq (.ite c s s') t) ρ σ Q E := k
theorem Ev.runK {P : AV → AH → Prop} (h : Ev C e ρ σ P) (k : ∀ v σ', Al σ σ' → P v σ' → K v σ') : ewp C e ρ σ K E := h.run k
theorem Is.runK (h : Is C e ρ σ x) (k : ∀ σ', Al σ σ' → K x σ') : ewp C e ρ σ K E := h.go k
theorem iteT {P : Prop} [Decidable P] {A B : Prop} (h : P) (k : A) : (if decide P = true then A else B) := by rw [if_pos (by simpa using h)]; exact k
theorem iteF {P : Prop} [Decidable P] {A B : Prop} (h : ¬ P) (k : B) : (if decide P = true then A else B) := by rw [if_neg (by simpa using h)]; exact k

theorem mark_at {d : Int} (d0 : 0 ≤ d) (d1 : d < 10) : ∃ m, m ∈ pMARKS ∧ (pMARKS.map AV.str)[d.toNat]? = some (.str m) := by
  have hl : d.toNat < pMARKS.length := by rw [show pMARKS.length = 10 from rfl]; omega
  exact ⟨pMARKS[d.toNat], List.getElem_mem hl, by rw [List.getElem?_map, List.getElem?_eq_getElem hl]; rfl⟩
theorem sgn_at {d : Int} (d0 : 0 ≤ d) (d1 : d < 3) : ∃ c : Nat, (c = 43 ∨ c = 45 ∨ c = 126) ∧ ([45, 43, 126] : List Nat)[d.toNat]? = some c := by
  obtain h | h | h : d = 0 ∨ d = 1 ∨ d = 2 := by omega
  · subst h; exact ⟨45, .inr (.inl rfl), rfl⟩
  · subst h; exact ⟨43, .inl rfl, rfl⟩
  · subst h; exact ⟨126, .inr (.inr rfl), rfl⟩

theorem tree_ok {w : Nat} : ∀ (many : Nat) {σ : AH} {Q : VQ} {E : AH → Prop}, Well w σ → σ aMARKS = some (.tup (pMARKS.map .str)) →
    (∀ r T σ', Well w σ' → Kp [w] σ σ' → TreeAt σ' r T → T.ok → T.nodes ≤ 2 * many + 1 → Q (.ref r) σ') → ∀ n, many + 3 ≤ n → cwp theProg n 15 [.ref w, .int (many : Nat)] σ Q E := by
  intro many
  induction many using Nat.strongRecOn with
  | _ many ih =>
  intro σ Q E W hM h n hn
  obtain ⟨m, rfl⟩ : ∃ m, n = m + 3 := ⟨n - 3, by omega⟩
  refine defCall (fn := _) rfl rfl (by simp) ?_
  have L0 : ∀ {C : CallT} {σ : AH}, Is C (.loc 0) ([.ref w, .int (many : Nat)] ++ List.replicate 2 .unb) σ (.ref w) := Is.loc rfl nofun
  have L1 : ∀ {C : CallT} {σ : AH}, Is C (.loc 1) ([.ref w, .int (many : Nat)] ++ List.replicate 2 .unb) σ (.int (many : Nat)) := Is.loc rfl nofun
  refine seq_ite (Is.lt L1 Is.int) (fun e σ1 l1 => ?_) fun e σ1 l1 => ?_
  · refine seq_retE (call1_ok L0 fun σ2 l2 => ?_)
    have l12 := l1.trans l2
    exact leaf_ok (W.at l12) fun r T σ' W' k ht ok nd => h r T σ' W' (l12.of.trans k) ht ok (by omega)
  have hm : 1 ≤ many := by simp at e; omega
  refine skip_next ?_
  refine iteE (cmpE (draw_call (W.at l1) L0 Is.int (by decide) fun d σ2 d0 d1 W2 k2 => intE ?_))
  have k12 : Kp [w] σ σ2 := l1.of.trans k2
  have M2 : σ2 aMARKS = _ := k12 _ _ (W.lists.no (by nofun) hM) hM
  show (if decide (d = 0) = true then _ else _)
  by_cases hd : d = 0
  · refine iteT hd (seq_retE (tup3E (strE (idxE (strE (draw_call W2 L0 Is.int (by decide) fun d' σ3 e0 e1 W3 k3 => ?_))))))
    obtain ⟨c, hc, hi⟩ := sgn_at e0 e1
    refine idx_str e0 (by omega) hi ?_
    refine call2_ok L0 (Is.cong (Is.sub L1 Is.int) (y := .int ((many - 1 : Nat) : Int)) (by congr 1; omega)) fun σ4 l4 => ?_
    have k14 : Kp [w] σ σ4 := (k12.trans k3).trans l4.of
    refine ih (many - 1) (by omega) (W3.at l4) (k14 _ _ (W.lists.no (by nofun) hM) hM) (fun r T σ5 W5 k5 ht ok nd => ?_) _ (by omega)
    refine new fun a σ6 _ ha l6 => ?_
    exact h a (.ahead c T) σ6 (W5.at l6) ((k14.trans k5).trans l6.of) ⟨r, ha, ht.al l6⟩ ⟨hc, ok⟩ (by simp only [Tr.nodes]; omega)
  refine iteF hd (skip_next ?_)
  refine seq_asgE (idxE (Is.runK Is.gv fun σ3 l3 => draw_call (W2.at l3) L0 Is.int (by decide) fun d' σ4 e0 e1 W4 k4 => ?_))
  have M4 : σ4 aMARKS = _ := k4 _ _ ((W2.at l3).lists.no (by nofun) (l3.get M2)) (l3.get M2)
  obtain ⟨mk, hmk, hi⟩ := mark_at e0 e1
  refine idx_tup M4 e0 (by omega) hi ⟨nofun, ?_⟩
  show swp _ _ [.ref w, .int (many : Nat), .str mk, .unb] σ4 _ E
  refine seq_asgE (draw_call W4 (Is.loc rfl nofun) (Is.loc (x := .int (many : Nat)) rfl nofun) (by omega) fun f σ5 f0 f1 W5 k5 => ⟨nofun, ?_⟩)
  obtain ⟨lf, rfl⟩ : ∃ lf : Nat, f = lf := ⟨f.toNat, by omega⟩
  show swp _ _ [.ref w, .int (many : Nat), .str mk, .int (lf : Nat)] σ5 _ E
  have M0 : ∀ {C : CallT} {σ : AH}, Is C (.loc 0) [.ref w, .int (many : Nat), .str mk, .int (lf : Nat)] σ (.ref w) := Is.loc rfl nofun
  have M1 : ∀ {C : CallT} {σ : AH}, Is C (.loc 1) [.ref w, .int (many : Nat), .str mk, .int (lf : Nat)] σ (.int (many : Nat)) := Is.loc rfl nofun
  have M3 : ∀ {C : CallT} {σ : AH}, Is C (.loc 3) [.ref w, .int (many : Nat), .str mk, .int (lf : Nat)] σ (.int (lf : Nat)) := Is.loc rfl nofun
  refine seq_retE (tup4E (strE (Is.runK (x := .str mk) (Is.loc rfl nofun) fun σ6 l6 => call2_ok M0 M3 fun σ7 l7 => ?_)))
  have k17 : Kp [w] σ σ7 := (((k12.trans l3.of).trans k4).trans k5).trans (l6.trans l7).of
  refine ih lf (by omega) (W5.at (l6.trans l7)) (k17 _ _ (W.lists.no (by nofun) hM) hM) (fun r T σ8 W8 k8 ht ok nd => ?_) _ (by omega)
  refine call2_ok M0 (Is.cong (Is.sub (Is.sub M1 Is.int) M3) (y := .int ((many - 1 - lf : Nat) : Int)) (by congr 1; omega)) fun σ9 l9 => ?_
  have k19 : Kp [w] σ σ9 := (k17.trans k8).trans l9.of
  refine ih (many - 1 - lf) (by omega) (W8.at l9) (k19 _ _ (W.lists.no (by nofun) hM) hM) (fun r' T' σ10 W10 k10 ht' ok' nd' => ?_) _ (by omega)
  refine new fun a σ11 _ ha l11 => ?_
  have ht9 := ht.al l9
  exact h a (.both mk T T') σ11 (W10.at l11) ((k19.trans k10).trans l11.of) ⟨r, r', ha, (ht9.mono k10 (W8.at l9).lists).al l11, ht'.al l11⟩ ⟨hmk, ok, ok'⟩ (by simp only [Tr.nodes]; omega)

theorem Is.call0 {n : Nat} : Ev (cwp theProg (n + 1)) (.call0 11) ρ σ fun v σ' => ∃ r, v = .ref r ∧ σ' r = some (.dict pLEV) := fun σ₀ l K E k =>
  defCall (fn := _) rfl rfl (by simp) (seq_retE (new fun c σ' _ hc l' => k _ σ' l' ⟨c, rfl, hc⟩))
theorem rank_ok {n r : Nat} {T : Tr} {Q : VQ} (ht : TreeAt σ r T) (ok : T.okS) (h : ∀ σ', Al σ σ' → Q (.int T.rank) σ') : cwp theProg (n + 2) 16 [.ref r] σ Q E := by
  refine defCall (fn := _) rfl rfl (by simp) ?_
  have L0 : ∀ {C : CallT} {σ : AH}, Is C (.loc 0) ([.ref r] ++ List.replicate 0 .unb) σ (.ref r) := Is.loc rfl nofun
  have nb : ∀ {x : List Nat} {xs : List AV} {v : Int}, σ r = some (.tup (.str x :: xs)) → x ≠ wBOTH → (if x = wAHEAD then 4 else 5) = v → T.rank = v →
      swp (cwp theProg (n + 1)) body_law_rank ([.ref r] ++ List.replicate 0 .unb) σ (fun o _ σ' => Q o.val σ') E := fun {x xs v} hr hx hv ht => by
    refine seq_ite (Is.eqS (Is.idxTup L0 Is.int hr (by decide) (by decide) rfl) Is.str) (fun e σ1 l1 => absurd (of_decide_eq_true e) hx) fun e σ1 l1 => ?_
    refine skip_next (seq_ret (P := fun u _ => u = .int v) (Is.ife (Is.eqS (Is.idxTup L0 Is.int (l1.get hr) (by decide) (by decide) rfl) Is.str) (fun e => ?_) fun e => ?_) ?_)
    · have : x = wAHEAD := of_decide_eq_true e
      rw [← hv, if_pos this]; exact Is.int
    · have : x ≠ wAHEAD := of_decide_eq_false e
      rw [← hv, if_neg this]; exact Is.int
    · rintro _ σ2 l2 rfl
      have := h σ2 (l1.trans l2)
      rw [ht] at this
      exact this
  cases T with
  | num v t => exact nb (v := 5) ht (by decide) (by decide) rfl
  | name s => exact nb (v := 5) ht (by decide) (by decide) rfl
  | ahead c t => obtain ⟨b, h1, h2⟩ := ht; exact nb (v := 4) h1 (by decide) (by decide) rfl
  | both m l rr =>
    obtain ⟨b, c, h1, h2, h3⟩ := ht
    refine seq_ite (Is.eqS (Is.idxTup L0 Is.int h1 (by decide) (by decide) rfl) Is.str) (fun e σ1 l1 => ?_) fun e σ1 l1 => absurd e (by decide)
    refine seq_retE (idxE (Is.call0.runK ?_))
    rintro _ σ2 l2 ⟨q, rfl, hq⟩
    refine (Is.idxTup (z := .str m) L0 Is.int ((l1.trans l2).get h1) (by decide) (by decide) rfl).runK fun σ3 l3 => ⟨_, l3.get hq, m, lev m, rfl, lev_some m ok.1, h σ3 ((l1.trans l2).trans l3)⟩
theorem Is.rank {n r : Nat} {T : Tr} (h : Is (cwp theProg (n + 2)) e ρ σ (.ref r)) (ht : TreeAt σ r T) (ok : T.okS) : Is (cwp theProg (n + 2)) (.call1 16 e) ρ σ (.int T.rank) := fun σ₀ l K E k =>
  call1_ok (h.at l) fun σ' l' => rank_ok (ht.al (l.trans l')) ok fun σ'' l'' => k _ σ'' (l'.trans l'') rfl
end
end Nm
end

section
open PySem PySem.W PyProof.Rows
set_option tactic.hygienic false
set_option maxRecDepth 100000
set_option maxHeartbeats 2000000
set_option linter.unusedVariables false
set_option linter.unusedSimpArgs false
namespace Nm
section
variable {C : CallT} {a b c d e : AE} {ρ : List AV} {σ : AH} {E : AH → Prop} {x y z u : AV} {Q : SQ} {s s' t : AS} {K : VQ}
noncomputable def tailBody : AS := (.seq (.ite (.or (.cmp .lt (.call1 16 (.loc 1)) (.loc 2)) (.cmp .eq (.call2 12 (.loc 0) (.int 9)) (.int 0)))
      (.seq (.ret (.bin .add (.bin .add (.bin .add (.bin .add (.str [40]) (.loc 3)) (.loc 4)) (.loc 3)) (.str [41])))
        .skip)
      .skip)
    (.seq (.ret (.loc 4))
    .skip))
theorem blank_len {b : List Nat} (h : Blank b) : b.length ≤ 1 := by rcases h with rfl | rfl <;> simp
theorem tail_ok {n w a : Nat} {T : Tr} {least : Int} {b y : List Nat} {k : List Tk} {o5 : AV} {Q : VQ} (W : Well w σ) (ht : TreeAt σ a T) (ok : T.okS) (hb : Blank b) (hB : Bd T y k) (hy : y.length ≤ 100000)
    (h : ∀ x k σ', Wr T least x k → Well w σ' → Kp [w] σ σ' → Q (.str x) σ') :
    swp (cwp theProg (n + 2)) tailBody [.ref w, .ref a, .int least, .str b, .str y, o5] σ (fun o _ σ' => Q o.val σ') E := by
  have bl := blank_len hb
  have L0 : ∀ {C : CallT} {σ : AH}, Is C (.loc 0) [.ref w, .ref a, .int least, .str b, .str y, o5] σ (.ref w) := Is.loc rfl nofun
  have L1 : ∀ {C : CallT} {σ : AH}, Is C (.loc 1) [.ref w, .ref a, .int least, .str b, .str y, o5] σ (.ref a) := Is.loc rfl nofun
  have L2 : ∀ {C : CallT} {σ : AH}, Is C (.loc 2) [.ref w, .ref a, .int least, .str b, .str y, o5] σ (.int least) := Is.loc rfl nofun
  have L3 : ∀ {C : CallT} {σ : AH}, Is C (.loc 3) [.ref w, .ref a, .int least, .str b, .str y, o5] σ (.str b) := Is.loc rfl nofun
  have L4 : ∀ {C : CallT} {σ : AH}, Is C (.loc 4) [.ref w, .ref a, .int least, .str b, .str y, o5] σ (.str y) := Is.loc rfl nofun
  have par : ∀ {σ1 : AH} {s : AS} {E : AH → Prop}, Well w σ1 → Kp [w] σ σ1 → swp (cwp theProg (n + 2)) (.seq (.ret (.bin .add (.bin .add (.bin .add (.bin .add (.str [40]) (.loc 3)) (.loc 4)) (.loc 3)) (.str [41]))) s) [.ref w, .ref a, .int least, .str b, .str y, o5] σ1 (fun o _ σ' => Q o.val σ') E := fun W1 k1 => by
    refine seq_ret (Is.cat (Is.cat (Is.cat (Is.cat Is.str L3 ?_) L4 ?_) L3 ?_) Is.str ?_) ?_
    · simp only [List.length_cons, List.length_nil]; omega
    · simp only [List.length_append, List.length_cons, List.length_nil]; omega
    · simp only [List.length_append, List.length_cons, List.length_nil]; omega
    · simp only [List.length_append, List.length_cons, List.length_nil]; omega
    · rintro _ σ2 l2 rfl
      exact h _ _ σ2 (.inr ⟨b, y, k, hb, hB, rfl, rfl⟩) (W1.at l2) (k1.trans l2.of)
  unfold tailBody
  refine iteE (orE ((Is.lt (Is.rank L1 ht ok) L2).runK fun σ1 l1 => ?_))
  show (if decide (T.rank < least) = true then (if decide (T.rank < least) = true then _ else _) else _)
  by_cases hr : T.rank < least
  · exact iteT hr (iteT hr (par (W.at l1) l1.of))
  · refine iteF hr (cmpE (draw_call (W.at l1) L0 Is.int (by decide) fun d σ2 d0 d1 W2 k2 => intE ?_))
    show (if decide (d = 0) = true then _ else _)
    by_cases hd : d = 0
    · exact iteT hd (par W2 (l1.of.trans k2))
    · refine iteF hd (skip_next (seq_ret L4 ?_))
      rintro _ σ3 l3 rfl
      exact h y k σ3 (.inl ⟨by omega, hB⟩) (W2.at l3) ((l1.of.trans k2).trans l3.of)
theorem blank_if (d : Int) : Blank (if d = 0 then [] else [32]) := by
  by_cases h : d = 0 <;> simp [h, Blank]
theorem bd_len {T : Tr} (ok : T.ok) (hn : T.nodes ≤ 1000) {y : List Nat} {k : List Tk} (h : Bd T y k) : y.length ≤ 44000 := by
  obtain ⟨xs, _, _, _, h4, _⟩ := bd_lex T ok y k h
  omega
theorem wr_len {T : Tr} (ok : T.ok) (hn : T.nodes ≤ 1000) {l : Int} {y : List Nat} {k : List Tk} (h : Wr T l y k) : y.length ≤ 44000 := by
  obtain ⟨xs, _, _, _, h4, _⟩ := wrp_lex h (bd_lex T ok)
  omega
theorem written_ok {w : Nat} : ∀ (T : Tr) (least : Int) {a : Nat} {σ : AH} {Q : VQ} {E : AH → Prop}, T.ok → T.nodes ≤ 1000 → Well w σ → TreeAt σ a T →
    (∀ x k σ', Wr T least x k → Well w σ' → Kp [w] σ σ' → Q (.str x) σ') → ∀ n, T.nodes + 3 ≤ n → cwp theProg n 17 [.ref w, .ref a, .int least] σ Q E := by
  intro T
  induction T with
  | num v t =>
    intro least a σ Q E ok hN W ht h n hn
    obtain ⟨m, rfl⟩ : ∃ m, n = m + 3 := ⟨n - 3, by omega⟩
    refine defCall (fn := _) rfl rfl (by simp) ?_
    refine seq_asgE (binE (strE (draw_call W (Is.loc rfl nofun) Is.int (by decide) fun d σ1 d0 d1 W1 k1 => ⟨d, rfl, by decide, by omega, nofun, ?_⟩)))
    have hb := blank_if d
    generalize (if d = 0 then [] else [32]) = b at hb
    have ht1 := ht.mono k1 W.lists
    show swp _ _ [.ref w, .ref a, .int least, .str b, .unb, .unb] σ1 _ E
    refine seq_ite (Is.eqS (Is.idxTup (Is.loc (x := .ref a) rfl nofun) Is.int ht1 (by decide) (by decide) rfl) Is.str) (fun e σ2 l2 => ?_) fun e σ2 l2 => absurd e (by decide)
    refine seq_let (Is.idxTup (z := .str t) (Is.loc (x := .ref a) rfl nofun) Is.int (l2.get ht1) (by decide) (by decide) rfl) nofun fun σ3 l3 => skip_next ?_
    have l23 := l2.trans l3
    have hB : Bd (.num v t) t [.val ⟨[], [], v⟩] := ⟨rfl, rfl⟩
    exact tail_ok (W1.at l23) (ht1.al l23) (ok_okS ok) hb hB (Nat.le_trans (bd_len ok hN hB) (by decide)) fun x k σ' hw W' k' => h x k σ' hw W' ((k1.trans l23.of).trans k')
  | name nm =>
    intro least a σ Q E ok hN W ht h n hn
    obtain ⟨m, rfl⟩ : ∃ m, n = m + 3 := ⟨n - 3, by omega⟩
    refine defCall (fn := _) rfl rfl (by simp) ?_
    refine seq_asgE (binE (strE (draw_call W (Is.loc rfl nofun) Is.int (by decide) fun d σ1 d0 d1 W1 k1 => ⟨d, rfl, by decide, by omega, nofun, ?_⟩)))
    have hb := blank_if d
    generalize (if d = 0 then [] else [32]) = b at hb
    have ht1 := ht.mono k1 W.lists
    show swp _ _ [.ref w, .ref a, .int least, .str b, .unb, .unb] σ1 _ E
    have A : ∀ {σ : AH} {i : Int} {z : AV}, σ a = some (.tup [.str wNAME, .str nm, .str []]) → 0 ≤ i → i < 1000000 → [AV.str wNAME, .str nm, .str []][i.toNat]? = some z → Is (cwp theProg (m + 2)) (.idx (.loc 1) (.int i)) [.ref w, .ref a, .int least, .str b, .unb, .unb] σ z := fun hh h0 h1 hz => Is.idxTup (Is.loc (x := .ref a) rfl nofun) Is.int hh h0 h1 hz
    refine seq_ite (Is.eqS (A ht1 (by decide) (by decide) rfl) Is.str) (fun e σ2 l2 => absurd e (by decide)) fun e σ2 l2 => ?_
    refine seq_ite (Is.eqS (A (l2.get ht1) (by decide) (by decide) rfl) Is.str) (fun e σ3 l3 => ?_) fun e σ3 l3 => absurd e (by decide)
    refine seq_let (A (l3.get (l2.get ht1)) (by decide) (by decide) rfl) nofun fun σ4 l4 => skip_next (skip_next ?_)
    have l24 := (l2.trans l3).trans l4
    have hB : Bd (.name nm) nm [.val ⟨nm, [], 0⟩] := ⟨rfl, rfl⟩
    exact tail_ok (W1.at l24) (ht1.al l24) (ok_okS ok) hb hB (Nat.le_trans (bd_len ok hN hB) (by decide)) fun x k σ' hw W' k' => h x k σ' hw W' ((k1.trans l24.of).trans k')
  | ahead c T ih =>
    intro least a σ Q E ok hN W ht h n hn
    obtain ⟨m, rfl⟩ : ∃ m, n = m + 3 := ⟨n - 3, by omega⟩
    refine defCall (fn := _) rfl rfl (by simp) ?_
    refine seq_asgE (binE (strE (draw_call W (Is.loc rfl nofun) Is.int (by decide) fun d σ1 d0 d1 W1 k1 => ⟨d, rfl, by decide, by omega, nofun, ?_⟩)))
    have hb := blank_if d
    generalize (if d = 0 then [] else [32]) = b at hb
    have bl := blank_len hb
    have ht1 := ht.mono k1 W.lists
    obtain ⟨r, hr, hT⟩ := ht1
    show swp _ _ [.ref w, .ref a, .int least, .str b, .unb, .unb] σ1 _ E
    have L0 : ∀ {C : CallT} {σ : AH}, Is C (.loc 0) [.ref w, .ref a, .int least, .str b, .unb, .unb] σ (.ref w) := Is.loc rfl nofun
    have L3 : ∀ {C : CallT} {σ : AH}, Is C (.loc 3) [.ref w, .ref a, .int least, .str b, .unb, .unb] σ (.str b) := Is.loc rfl nofun
    have A : ∀ {σ : AH} {i : Int} {z : AV}, σ a = some (.tup [.str wAHEAD, .str [c], .ref r]) → 0 ≤ i → i < 1000000 → [AV.str wAHEAD, .str [c], .ref r][i.toNat]? = some z → Is (cwp theProg (m + 2)) (.idx (.loc 1) (.int i)) [.ref w, .ref a, .int least, .str b, .unb, .unb] σ z := fun hh h0 h1 hz => Is.idxTup (Is.loc (x := .ref a) rfl nofun) Is.int hh h0 h1 hz
    refine seq_ite (Is.eqS (A hr (by decide) (by decide) rfl) Is.str) (fun e σ2 l2 => absurd e (by decide)) fun e σ2 l2 => ?_
    have hr2 := l2.get hr
    refine seq_ite (Is.eqS (A hr2 (by decide) (by decide) rfl) Is.str) (fun e σ3 l3 => absurd e (by decide)) fun e σ3 l3 => ?_
    have hr3 := l3.get hr2
    refine seq_ite (Is.eqS (A hr3 (by decide) (by decide) rfl) Is.str) (fun e σ4 l4 => ?_) fun e σ4 l4 => absurd e (by decide)
    have hr4 := l4.get hr3
    refine seq_asgE (binE ((Is.cat (A hr4 (by decide) (by decide) rfl) L3 (by simp only [List.length_cons, List.length_nil]; omega)).runK fun σ5 l5 => call3_ok L0 (A (l5.get hr4) (by decide) (by decide) rfl) Is.int fun σ6 l6 => ?_))
    have l26 := (((l2.trans l3).trans l4).trans l5).trans l6
    have k26 : Kp [w] σ σ6 := k1.trans l26.of
    simp only [Tr.nodes] at hn hN
    refine ih 4 ok.2 (by omega) (W1.at l26) (hT.al l26) (fun x k σ7 hw W7 k7 => ?_) _ (by omega)
    have xl := wr_len ok.2 (by omega) hw
    refine ⟨_, rfl, ?_, nofun, skip_next (skip_next (skip_next ?_))⟩
    · simp only [List.length_append, List.length_cons, List.length_nil, show big = 16777216 from rfl]; omega
    have hB : Bd (.ahead c T) ([c] ++ b ++ x) (.op [c] :: k) := ⟨b, x, k, hb, hw, rfl, rfl⟩
    exact tail_ok W7 (TreeAt.mono (t := .ahead c T) k7 (W1.at l26).lists ⟨r, l26.get hr, hT.al l26⟩) (ok_okS ok) hb hB (Nat.le_trans (bd_len ok (by simp only [Tr.nodes]; omega) hB) (by decide)) fun x k σ' hw W' k' => h x k σ' hw W' ((k26.trans k7).trans k')
  | both mk l r ihl ihr =>
    intro least a σ Q E ok hN W ht h n hn
    obtain ⟨m, rfl⟩ : ∃ m, n = m + 3 := ⟨n - 3, by omega⟩
    refine defCall (fn := _) rfl rfl (by simp) ?_
    refine seq_asgE (binE (strE (draw_call W (Is.loc rfl nofun) Is.int (by decide) fun d σ1 d0 d1 W1 k1 => ⟨d, rfl, by decide, by omega, nofun, ?_⟩)))
    have hb := blank_if d
    generalize (if d = 0 then [] else [32]) = b at hb
    have bl := blank_len hb
    have ht1 := ht.mono k1 W.lists
    have hT1 := ht1
    obtain ⟨q, q', hr, hl, hrr⟩ := ht1
    show swp _ _ [.ref w, .ref a, .int least, .str b, .unb, .unb] σ1 _ E
    have A : ∀ {σ : AH} {i : Int} {z o5 : AV}, σ a = some (.tup [.str wBOTH, .str mk, .ref q, .ref q']) → 0 ≤ i → i < 1000000 → [AV.str wBOTH, .str mk, .ref q, .ref q'][i.toNat]? = some z → Is (cwp theProg (m + 2)) (.idx (.loc 1) (.int i)) [.ref w, .ref a, .int least, .str b, .unb, o5] σ z := fun hh h0 h1 hz => Is.idxTup (Is.loc (x := .ref a) rfl nofun) Is.int hh h0 h1 hz
    refine seq_ite (Is.eqS (A hr (by decide) (by decide) rfl) Is.str) (fun e σ2 l2 => absurd e (by decide)) fun e σ2 l2 => ?_
    have hr2 := l2.get hr
    refine seq_ite (Is.eqS (A hr2 (by decide) (by decide) rfl) Is.str) (fun e σ3 l3 => absurd e (by decide)) fun e σ3 l3 => ?_
    have hr3 := l3.get hr2
    refine seq_ite (Is.eqS (A hr3 (by decide) (by decide) rfl) Is.str) (fun e σ4 l4 => absurd e (by decide)) fun e σ4 l4 => ?_
    have l24 := (l2.trans l3).trans l4
    refine seq_let (Is.rank (Is.loc (x := .ref a) rfl nofun) (hT1.al l24) (ok_okS ok)) nofun fun σ5 l5 => ?_
    show swp _ _ [.ref w, .ref a, .int least, .str b, .unb, .int (lev mk)] σ5 _ E
    have l25 := l24.trans l5
    have hr5 := l25.get hr
    have L0 : ∀ {C : CallT} {σ : AH}, Is C (.loc 0) [.ref w, .ref a, .int least, .str b, .unb, .int (lev mk)] σ (.ref w) := Is.loc rfl nofun
    have L3 : ∀ {C : CallT} {σ : AH}, Is C (.loc 3) [.ref w, .ref a, .int least, .str b, .unb, .int (lev mk)] σ (.str b) := Is.loc rfl nofun
    have L5 : ∀ {C : CallT} {σ : AH}, Is C (.loc 5) [.ref w, .ref a, .int least, .str b, .unb, .int (lev mk)] σ (.int (lev mk)) := Is.loc rfl nofun
    have ml := mark_len mk ok.1
    simp only [Tr.nodes] at hn hN
    refine seq_asgE (binE (binE (binE (binE (call3_ok L0 (A hr5 (by decide) (by decide) rfl) L5 fun σ6 l6 => ?_)))))
    have l26 := l25.trans l6
    refine ihl (lev mk) ok.2.1 (by omega) (W1.at l26) (hl.al l26) (fun x1 j1 σ7 hw1 W7 k7 => ?_) _ (by omega)
    have xl := wr_len ok.2.1 (by omega) hw1
    have T7 := TreeAt.mono (t := .both mk l r) k7 (W1.at l26).lists ⟨q, q', l26.get hr, hl.al l26, hrr.al l26⟩
    obtain ⟨p, p', hr7, hl7, hrr7⟩ := T7
    have e1 := k7 _ _ ((W1.at l26).lists.no (by nofun) (l26.get hr)) (l26.get hr)
    have hpp : p' = q' := by rw [e1] at hr7; cases hr7; rfl
    subst hpp
    have e2 : big = 16777216 := rfl
    refine L3.runK fun σ8 l8 => ⟨_, rfl, by rw [e2]; omega, ?_⟩
    refine (A (z := .str mk) (l8.get e1) (by decide) (by decide) rfl).runK fun σ9 l9 => ⟨_, rfl, by simp only [List.length_append, e2]; omega, ?_⟩
    refine L3.runK fun σ10 l10 => ⟨_, rfl, by simp only [List.length_append, e2]; omega, ?_⟩
    have l710 := (l8.trans l9).trans l10
    refine call3_ok L0 (A (l710.get e1) (by decide) (by decide) rfl) (Is.add L5 Is.int) fun σ11 l11 => ?_
    have l711 := l710.trans l11
    refine ihr (lev mk + 1) ok.2.2 (by omega) (W7.at l711) (hrr7.al l711) (fun x2 j2 σ12 hw2 W12 k12 => ?_) _ (by omega)
    have xl2 := wr_len ok.2.2 (by omega) hw2
    refine ⟨_, rfl, by simp only [List.length_append, e2]; omega, nofun, skip_next (skip_next (skip_next ?_))⟩
    have hB : Bd (.both mk l r) (x1 ++ b ++ mk ++ b ++ x2) (j1 ++ .op mk :: j2) := ⟨b, x1, j1, x2, j2, hb, hw1, hw2, rfl, rfl⟩
    have kk : Kp [w] σ σ12 := (((k1.trans l26.of).trans k7).trans l711.of).trans k12
    exact tail_ok W12 (TreeAt.mono (t := .both mk l r) k12 (W7.at l711).lists ⟨p, p', l711.get hr7, hl7.al l711, hrr7.al l711⟩) (ok_okS ok) hb hB (Nat.le_trans (bd_len ok (by simp only [Tr.nodes]; omega) hB) (by decide)) fun x k σ' hw W' k' => h x k σ' hw W' (kk.trans k')
end
end Nm
end

section
open PySem PySem.W PyProof.Rows
set_option tactic.hygienic false
set_option maxRecDepth 100000
set_option maxHeartbeats 2000000
set_option linter.unusedVariables false
set_option linter.unusedSimpArgs false
namespace Nm

noncomputable def CmAt (σ : AH) (v : AV) : Option Cm → Prop
  | none => v = .none
  | some c => ∃ r p m, v = .ref r ∧ σ r = some (.tup [.ref p, .ref m, .int c.2.2]) ∧ σ p = some (.list (c.1.map .str)) ∧ σ m = some (.list (c.2.1.map .str))
theorem CmAt.al {σ σ' : AH} (k : Al σ σ') {v : AV} {c : Option Cm} (h : CmAt σ v c) : CmAt σ' v c := by
  cases c with
  | none => exact h
  | some c => obtain ⟨r, p, m, e, h1, h2, h3⟩ := h; exact ⟨r, p, m, e, k.get h1, k.get h2, k.get h3⟩
noncomputable def Plain (gs : List (List Nat)) : Prop := ∀ g ∈ gs, ∀ c ∈ g, c < 128
noncomputable def CmOK (c : Cm) : Prop := Plain c.1 ∧ Plain c.2.1 ∧ c.1.length ≤ 1 ∧ c.2.1.length ≤ 1
theorem Plain.app {a b : List (List Nat)} (h : Plain a) (h' : Plain b) : Plain (a ++ b) := fun g m => (List.mem_append.mp m).elim (h g) (h' g)
theorem plain_nil : Plain [] := by intro g m; cases m
theorem add_cmok {a b c : Cm} (ha : CmOK a) (hb : CmOK b) (h : addS a b = some c) : CmOK c := by
  unfold addS at h
  split at h
  · cases h
  · rename_i q
    split at h
    · cases h; exact ⟨plain_nil, plain_nil, by simp, by simp⟩
    · cases h; exact ⟨ha.1.app hb.1, ha.2.1.app hb.2.1, Nat.le_of_not_lt fun x => q (.inl x), Nat.le_of_not_lt fun x => q (.inr x)⟩
theorem comes_cmok : ∀ (t : Tr) (c : Cm), t.ok → t.comes = some c → CmOK c
  | .num v t, c, _, h => by cases h; exact ⟨plain_nil, plain_nil, by simp, by simp⟩
  | .name s, c, ok, h => by
    cases h
    refine ⟨?_, plain_nil, by simp, by simp⟩
    intro g m
    simp only [List.mem_cons, List.not_mem_nil, or_false] at m
    subst m
    exact (show ∀ s ∈ lNAMES, ∀ c ∈ s, c < 128 by decide +kernel) g ok
  | .ahead m t, c, ⟨_, ok⟩, h => by
    simp only [Tr.comes] at h
    cases e : t.comes with
    | none => rw [e] at h; cases h
    | some u =>
      rw [e] at h
      have ih := comes_cmok t u ok e
      simp only [Option.bind_some] at h
      split at h
      · cases h; exact ih
      split at h
      · cases h; exact ⟨ih.2.1, ih.1, ih.2.2.2, ih.2.2.1⟩
      split at h
      · cases h; exact ⟨plain_nil, plain_nil, by simp, by simp⟩
      · cases h
  | .both m l r, c, ⟨_, ok, ok'⟩, h => by
    simp only [Tr.comes] at h
    cases e : l.comes with
    | none => rw [e] at h; cases h
    | some u =>
      cases e' : r.comes with
      | none => rw [e, e'] at h; cases h
      | some v =>
        rw [e, e'] at h
        have ih := comes_cmok l u ok e
        have ih' := comes_cmok r v ok' e'
        simp only [Option.bind_some] at h
        split at h
        · exact add_cmok ih ih' h
        split at h
        · exact add_cmok ih ⟨ih'.2.1, ih'.1, ih'.2.2.2, ih'.2.2.1⟩ h
        split at h
        · cases h
        · cases hr : reckS m u.2.2 v.2.2 with
          | none => rw [hr] at h; cases h
          | some n => rw [hr] at h; cases h; exact ⟨plain_nil, plain_nil, by simp, by simp⟩
theorem comes_bits {t : Tr} {c : Cm} (ok : t.ok) (h : t.comes = some c) : Builtin.Int.intBits c.2.2 ≤ t.bits := by
  rw [comes_eq t (ok_okS ok)] at h
  cases e : t.value with
  | none => rw [e] at h; cases h
  | some v => rw [e] at h; cases h; exact value_bits t v e

noncomputable def strD (g : List Nat) : PyData := .str ⟨g.toArray⟩
theorem eqv_str (a b : List Nat) : PyData.eqv (strD a) (strD b) = decide (a = b) := by
  unfold strD
  simp only [PyData.eqv]
  by_cases h : a = b
  · subst h; simp
  · have : ¬ ((⟨a.toArray⟩ : Str) = ⟨b.toArray⟩) := fun q => h (by cases q; rfl)
    simp [h, this]
theorem eqvAll_strs : ∀ gs hs : List (List Nat), PyData.eqvAll (gs.map strD) (hs.map strD) = decide (gs = hs)
  | [], [] => by simp [PyData.eqvAll]
  | [], _ :: _ => by simp [PyData.eqvAll]
  | _ :: _, [] => by simp [PyData.eqvAll]
  | g :: gs, h :: hs => by
    simp only [List.map_cons, PyData.eqvAll, eqv_str, eqvAll_strs gs hs]
    by_cases q : g = h <;> by_cases q' : gs = hs <;> simp [q, q']
theorem shaped_pl {gs : List (List Nat)} (h : Plain gs) : SeqAt.shaped (.list (gs.map strD)) = true := shaped_strs h
section
variable {C : CallT} {a b c d e : AE} {ρ : List AV} {σ : AH} {E : AH → Prop} {x y z u : AV} {Q : SQ} {s s' t : AS} {K : VQ}
theorem Is.eqLists {p q : Nat} {gs hs : List (List Nat)} (h : Is C a ρ σ (.ref p)) (h' : Is C b ρ σ (.ref q)) (hp : σ p = some (.list (gs.map .str))) (hq : σ q = some (.list (hs.map .str))) (pg : Plain gs) (ph : Plain hs) :
    Is C (.cmp .eq a b) ρ σ (.bool (decide (gs = hs))) := fun σ₀ l K E k =>
  two (R := fun x y σ K => cmpV .eq x y σ K) h h' l fun σ' l' => by
    refine ⟨_, _, .list ((l.trans l').get hp) (rd_strs _), .list ((l.trans l').get hq) (rd_strs _), shaped_pl pg, shaped_pl ph, ?_⟩
    show K (.bool (PyData.eqvAll (gs.map strD) (hs.map strD))) σ'
    rw [eqvAll_strs]
    exact k _ σ' l' rfl
theorem slcE (k : ewp C a ρ σ (fun x σ₁ => ewp C b ρ σ₁ (fun y σ₂ => ewp C c ρ σ₂ (fun z σ₃ => slcV x y z σ₃ K) E) E) E) : ewp C (.slc a b c) ρ σ K E := k
theorem tup2LE (k : newO σ (.list []) fun x σ₁ => newO σ₁ (.list []) fun y σ₂ => newO σ₂ (.tup [x, y]) K) : ewp C (.tup2 .lst0 .lst0) ρ σ K E := k
theorem tup2E (k : ewp C a ρ σ (fun x σ₁ => ewp C b ρ σ₁ (fun y σ₂ => newO σ₂ (.tup [x, y]) K) E) E) : ewp C (.tup2 a b) ρ σ K E := k
/-- a cut of a reckoning beside two empty lists -/
theorem two_names {o : COp} {r p m : Nat} {n : Int} {gs hs : List (List Nat)} (h : Is C a ρ σ (.ref r)) (hr : σ r = some (.tup [.ref p, .ref m, .int n])) (hp : σ p = some (.list (gs.map .str))) (hm : σ m = some (.list (hs.map .str))) (pg : Plain gs) (ph : Plain hs)
    (k : ∀ q q' d d' σ', Al σ σ' → Rd σ' (.ref q) d → Rd σ' (.ref q') d' → SeqAt.shaped d = true → SeqAt.shaped d' = true → PyData.eqv d d' = (decide (gs = []) && decide (hs = [])) → cmpV o (.ref q) (.ref q') σ' K) :
    ewp C (.cmp o (.slc a .none (.int 2)) (.tup2 .lst0 .lst0)) ρ σ K E := by
  refine cmpE (slcE (h.runK fun σ1 l1 => ?_))
  refine ⟨_, l1.get hr, rfl, rfl, rfl, new fun q σ2 _ hq l2 => tup2LE (new fun e1 σ3 _ h1 l3 => new fun e2 σ4 _ h2 l4 => new fun q' σ5 _ hq' l5 => ?_)⟩
  have l25 := (l3.trans l4).trans l5
  have l15 := (l1.trans l2).trans l25
  have hd : PyData.eqv (.tuple [.list (gs.map strD), .list (hs.map strD)]) (.tuple [.list [], .list []]) = (decide (gs = []) && decide (hs = [])) := by
    have e1 := eqvAll_strs gs []
    have e2 := eqvAll_strs hs []
    simp only [List.map_nil] at e1 e2
    simp only [PyData.eqv, PyData.eqvAll, e1, e2, Bool.and_true]
  have cl : SeqAt.shaped (.tuple [.list (gs.map strD), .list (hs.map strD)]) = true := by
    have e1 := shaped_pl pg
    have e2 := shaped_pl ph
    simp only [SeqAt.shaped, Bool.and_eq_true, decide_eq_true_eq, PyData.canLay0, PyData.depth] at e1 e2
    simp only [SeqAt.shaped, PyData.canLay0, PyData.canLayAll0, PyData.depth, PyData.depthAll, Bool.and_eq_true, decide_eq_true_eq, e1.1, e2.1, and_self, true_and]
    have d1 : PyData.depthAll (gs.map strD) = 0 := depth_strs gs
    have d2 : PyData.depthAll (hs.map strD) = 0 := depth_strs hs
    simp only [d1, d2]; decide
  exact k q q' (.tuple [.list (gs.map strD), .list (hs.map strD)]) (.tuple [.list [], .list []]) σ5 l15 (.tup (l25.get hq) (.cons (.list (l15.get hp) (rd_strs _)) (.cons (.list (l15.get hm) (rd_strs _)) .nil))) (.tup hq' (.cons (.list ((l4.trans l5).get h1) .nil) (.cons (.list (l5.get h2) .nil) .nil))) cl (by decide) hd
theorem Is.eqNames {r p m : Nat} {n : Int} {gs hs : List (List Nat)} (h : Is C a ρ σ (.ref r)) (hr : σ r = some (.tup [.ref p, .ref m, .int n])) (hp : σ p = some (.list (gs.map .str))) (hm : σ m = some (.list (hs.map .str))) (pg : Plain gs) (ph : Plain hs) :
    Is C (.cmp .eq (.slc a .none (.int 2)) (.tup2 .lst0 .lst0)) ρ σ (.bool (decide (gs = []) && decide (hs = []))) := fun σ₀ l K E k =>
  two_names (h.at l) (l.get hr) (l.get hp) (l.get hm) pg ph fun q q' d d' σ' l' h1 h2 h3 h4 h5 => ⟨d, d', h1, h2, h3, h4, by rw [h5]; exact k _ σ' l' rfl⟩
theorem Is.neNames {r p m : Nat} {n : Int} {gs hs : List (List Nat)} (h : Is C a ρ σ (.ref r)) (hr : σ r = some (.tup [.ref p, .ref m, .int n])) (hp : σ p = some (.list (gs.map .str))) (hm : σ m = some (.list (hs.map .str))) (pg : Plain gs) (ph : Plain hs) :
    Is C (.cmp .ne (.slc a .none (.int 2)) (.tup2 .lst0 .lst0)) ρ σ (.bool (!(decide (gs = []) && decide (hs = [])))) := fun σ₀ l K E k =>
  two_names (h.at l) (l.get hr) (l.get hp) (l.get hm) pg ph fun q q' d d' σ' l' h1 h2 h3 h4 h5 => ⟨d, d', h1, h2, h3, h4, by rw [h5]; exact k _ σ' l' rfl⟩
theorem asg2E {i j : Nat} (k : ewp C e ρ σ (fun v σ₁ => ∃ a x y, v = .ref a ∧ σ₁ a = some (.tup [x, y]) ∧ swp C t ((ρ.set i x).set j y) σ₁ Q E) E) : swp C (.seq (.asg2 i j e) t) ρ σ Q E := k
theorem Ev.cmNew {i : AE} {n : Int} (h : Is C i ρ σ (.int n)) : Ev C (.tup3 .lst0 .lst0 i) ρ σ fun v σ' => CmAt σ' v (some ([], [], n)) := fun σ₀ l K E k => by
  refine tup3E ?_
  show newO σ₀ (.list []) fun x σ₁ => newO σ₁ (.list []) fun y σ₂ => ewp C i ρ σ₂ (fun z σ₃ => newO σ₃ (.tup [x, y, z]) K) E
  refine new fun p σ1 _ h1 l1 => new fun m σ2 _ h2 l2 => ?_
  refine Is.runK ((h.at l).at (l1.trans l2)) fun σ3 l3 => new fun r σ4 _ h4 l4 => ?_
  exact k _ σ4 (((l1.trans l2).trans l3).trans l4) ⟨r, p, m, rfl, h4, ((l2.trans l3).trans l4).get h1, (l3.trans l4).get h2⟩
theorem Ev.cong {P P' : AV → AH → Prop} (h : Ev C e ρ σ P) (q : ∀ v σ', P v σ' → P' v σ') : Ev C e ρ σ P' := fun σ₀ l K E k => h σ₀ l K E fun v σ' l' p => k v σ' l' (q v σ' p)

theorem added_ok {n x y : Nat} {a b : Cm} {K : VQ} (ha : CmAt σ (.ref x) (some a)) (hb : CmAt σ (.ref y) (some b)) (oa : CmOK a) (ob : CmOK b) (h : ∀ v σ', Al σ σ' → CmAt σ' v (addS a b) → K v σ') : cwp theProg (n + 1) 18 [.ref x, .ref y] σ K E := by
  obtain ⟨x, p, m, q, a1, a2, a3⟩ := ha
  cases q
  obtain ⟨y, p', m', q, b1, b2, b3⟩ := hb
  cases q
  obtain ⟨o1, o2, o3, o4⟩ := oa
  obtain ⟨o5, o6, o7, o8⟩ := ob
  refine defCall (fn := _) rfl rfl (by simp) ?_
  have e2 : big = 16777216 := rfl
  refine asg2E (tup2E (binE ?_))
  refine (Is.idxTup (z := .ref p) (Is.loc (x := .ref x) rfl nofun) Is.int a1 (by decide) (by decide) rfl).runK fun σ1 l1 => ?_
  refine (Is.idxTup (z := .ref p') (Is.loc (x := .ref y) rfl nofun) Is.int (l1.get b1) (by decide) (by decide) rfl).runK fun σ2 l2 => ?_
  have l12 := l1.trans l2
  refine ⟨_, _, _, rfl, l12.get a2, l12.get b2, by simp only [List.length_map, e2]; omega, new fun q σ3 _ hq l3 => ?_⟩
  have l13 := l12.trans l3
  refine binE ?_
  refine (Is.idxTup (z := .ref m) (Is.loc (x := .ref x) rfl nofun) Is.int (l13.get a1) (by decide) (by decide) rfl).runK fun σ4 l4 => ?_
  refine (Is.idxTup (z := .ref m') (Is.loc (x := .ref y) rfl nofun) Is.int (l4.get (l13.get b1)) (by decide) (by decide) rfl).runK fun σ5 l5 => ?_
  have l15 := (l13.trans l4).trans l5
  refine ⟨_, _, _, rfl, l15.get a3, l15.get b3, by simp only [List.length_map, e2]; omega, new fun q' σ6 _ hq' l6 => new fun t σ7 _ ht l7 => ⟨t, _, _, rfl, ht, ?_⟩⟩
  have l17 := (l15.trans l6).trans l7
  show swp _ _ [.ref x, .ref y, .ref q, .ref q'] σ7 _ E
  have hq7 : σ7 q = some (.list ((a.1 ++ b.1).map .str)) := by rw [List.map_append]; exact (((l4.trans l5).trans l6).trans l7).get hq
  have hq7' : σ7 q' = some (.list ((a.2.1 ++ b.2.1).map .str)) := by rw [List.map_append]; exact l7.get hq'
  have L2 : ∀ {C : CallT} {σ : AH}, Is C (.loc 2) [.ref x, .ref y, .ref q, .ref q'] σ (.ref q) := Is.loc rfl nofun
  have L3 : ∀ {C : CallT} {σ : AH}, Is C (.loc 3) [.ref x, .ref y, .ref q, .ref q'] σ (.ref q') := Is.loc rfl nofun
  refine seq_ite (Is.or (Is.gt (Is.lenList L2 hq7 (by simp; omega)) Is.int) fun _ => Is.gt (Is.lenList L3 hq7' (by simp; omega)) Is.int) (fun e σ8 l8 => ?_) fun e σ8 l8 => ?_
  · refine ret_is Is.none fun σ9 l9 => ?_
    refine h _ σ9 ((l17.trans l8).trans l9) ?_
    have : addS a b = none := by
      unfold addS; rw [if_pos]
      simp only [Bool.or_eq_true, decide_eq_true_eq, List.length_map] at e
      omega
    rw [this]; rfl
  have c1 : ¬ (1 < (a.1 ++ b.1).length ∨ 1 < (a.2.1 ++ b.2.1).length) := by
    simp only [Bool.or_eq_false_iff, decide_eq_false_iff_not, List.length_map] at e
    omega
  have l18 := l17.trans l8
  have N : ∀ {σ9 : AH}, Al σ7 σ9 → Is (cwp theProg n) (.bin .add (.idx (.loc 0) (.int 2)) (.idx (.loc 1) (.int 2))) [.ref x, .ref y, .ref q, .ref q'] σ9 (.int (a.2.2 + b.2.2)) := fun {σ9} l9 =>
    Is.add (Is.idxTup (Is.loc (x := .ref x) rfl nofun) Is.int ((l17.trans l9).get a1) (by decide) (by decide) rfl) (Is.idxTup (Is.loc (x := .ref y) rfl nofun) Is.int ((l17.trans l9).get b1) (by decide) (by decide) rfl)
  refine skip_next (seq_ite (Is.eqLists L2 L3 (l8.get hq7) (l8.get hq7') (o1.app o5) (o2.app o6)) (fun e σ9 l9 => ?_) fun e σ9 l9 => ?_)
  · have c2 : a.1 ++ b.1 = a.2.1 ++ b.2.1 := of_decide_eq_true e
    refine seq_ret (Ev.cmNew (N (l8.trans l9))) ?_
    intro v σ10 l10 hv
    refine h v σ10 ((l18.trans l9).trans l10) ?_
    have : addS a b = some ([], [], a.2.2 + b.2.2) := by unfold addS; rw [if_neg c1, if_pos c2]
    rw [this]; exact hv
  · have c2 : ¬ (a.1 ++ b.1 = a.2.1 ++ b.2.1) := of_decide_eq_false e
    refine skip_next (seq_ret (Ev.tup3 L2 L3 (N (l8.trans l9))) ?_)
    rintro _ σ10 l10 ⟨r, rfl, hr⟩
    refine h _ σ10 ((l18.trans l9).trans l10) ?_
    have : addS a b = some (a.1 ++ b.1, a.2.1 ++ b.2.1, a.2.2 + b.2.2) := by unfold addS; rw [if_neg c1, if_neg c2]
    rw [this]; exact ⟨r, q, q', rfl, hr, ((l8.trans l9).trans l10).get hq7, ((l8.trans l9).trans l10).get hq7'⟩
end
end Nm
end

section
open PySem PySem.W PyProof.Rows
set_option tactic.hygienic false
set_option maxRecDepth 100000
set_option maxHeartbeats 2000000
set_option linter.unusedVariables false
set_option linter.unusedSimpArgs false
namespace Nm
noncomputable def optV : Option Int → AV | none => .none | some n => .int n
section
variable {C : CallT} {a b c d e : AE} {ρ : List AV} {σ : AH} {E : AH → Prop} {x y z u : AV} {Q : SQ} {s s' t : AS} {K : VQ}
theorem call2E {f : Nat} (k : ewp C a ρ σ (fun x σ₁ => ewp C b ρ σ₁ (fun y σ₂ => C f [x, y] σ₂ K E) E) E) : ewp C (.call2 f a b) ρ σ K E := k
theorem Is.pow2 {j : Int} (h : Is C a ρ σ (.int j)) (h0 : 0 ≤ j) (h1 : j ≤ 1000000) : Is C (.bin .pow (.int 2) a) ρ σ (.int (2 ^ j.toNat)) := Is.ofBin Is.int h fun _ _ k => ⟨2, j, rfl, rfl, h0, h1, by decide, k⟩
theorem eq_any2 {m p q : List Nat} : ([p, q].any (· == m)) = decide (m = p ∨ m = q) := by
  rw [Bool.eq_iff_iff]
  simp only [List.any_cons, List.any_nil, Bool.or_false, Bool.or_eq_true, beq_iff_eq, decide_eq_true_eq]
  exact ⟨fun h => h.imp Eq.symm Eq.symm, fun h => h.imp Eq.symm Eq.symm⟩
theorem reckoned_ok {n : Nat} {m : List Nat} {l r : Int} {K : VQ} (hm : m ∈ pMARKS) (bl : Builtin.Int.intBits l ≤ 8000) (br : Builtin.Int.intBits r ≤ 8000) (h : ∀ σ', Al σ σ' → K (optV (reckS m l r)) σ') :
    cwp theProg (n + 1) 19 [.str m, .int l, .int r] σ K E := by
  refine defCall (fn := _) rfl rfl (by simp) ?_
  have L0 : ∀ {C : CallT} {σ : AH} {o : AV}, Is C (.loc 0) [.str m, .int l, .int r, o] σ (.str m) := Is.loc rfl nofun
  have L1 : ∀ {C : CallT} {σ : AH} {o : AV}, Is C (.loc 1) [.str m, .int l, .int r, o] σ (.int l) := Is.loc rfl nofun
  have L2 : ∀ {C : CallT} {σ : AH} {o : AV}, Is C (.loc 2) [.str m, .int l, .int r, o] σ (.int r) := Is.loc rfl nofun
  show swp _ body_law_reckoned [.str m, .int l, .int r, .unb] _ _ _
  unfold body_law_reckoned
  refine seq_ite (Is.inTup2 L0) (fun e σ1 l1 => ?_) fun e σ1 l1 => ?_
  · rw [eq_any2] at e
    have c : m = [47] ∨ m = [37] := of_decide_eq_true e
    refine seq_ite (Is.eqI L2 Is.int) (fun e σ2 l2 => ?_) fun e σ2 l2 => ?_
    · have hr : r = 0 := of_decide_eq_true e
      refine ret_is Is.none fun σ3 l3 => ?_
      have := h σ3 ((l1.trans l2).trans l3)
      rw [show reckS m l r = none by unfold reckS; rw [if_pos c, if_pos hr]] at this
      exact this
    have hr : r ≠ 0 := of_decide_eq_false e
    have hs : reckS m l r = some (if m = [47] then wholeS l r else l - wholeS l r * r) := by unfold reckS; rw [if_pos c, if_neg hr]
    refine skip_next (seq_let (Is.fdiv (Is.abs L1) (Is.abs L2) (absI_ne hr) (bits_log br)) nofun fun σ3 l3 => ?_)
    show swp _ _ [.str m, .int l, .int r, .int ((absI l).fdiv (absI r))] σ3 _ E
    have hw : Is (cwp theProg n) (.ife (.cmp .eq (.cmp .lt (.loc 1) (.int 0)) (.cmp .lt (.loc 2) (.int 0))) (.loc 3) (.neg (.loc 3))) [.str m, .int l, .int r, .int ((absI l).fdiv (absI r))] σ3 (.int (wholeS l r)) := by
      refine Is.ife (Is.eqB (Is.lt L1 Is.int) (Is.lt L2 Is.int)) (fun e => ?_) fun e => ?_
      · have q : decide (l < 0) = decide (r < 0) := by simpa using e
        have : wholeS l r = (absI l).fdiv (absI r) := by unfold wholeS; rw [if_pos q]
        rw [this]; exact Is.loc rfl nofun
      · have q : ¬ decide (l < 0) = decide (r < 0) := by simpa using e
        have : wholeS l r = -(absI l).fdiv (absI r) := by unfold wholeS; rw [if_neg q]
        rw [this]; exact Is.neg (Is.loc rfl nofun)
    have wb : Builtin.Int.intBits (wholeS l r) ≤ 8001 := by
      unfold wholeS
      have := intBits_fdiv_le (y := absI r) (abs_bits bl)
      split
      · omega
      · exact Nat.le_trans (intBits_neg_le this) (by omega)
    refine seq_let hw nofun fun σ4 l4 => ?_
    show swp _ _ [.str m, .int l, .int r, .int (wholeS l r)] σ4 _ E
    refine seq_ret (P := fun v _ => v = optV (reckS m l r)) (Is.ife (Is.eqS L0 Is.str) (fun e => ?_) fun e => ?_) ?_
    · have q : m = [47] := of_decide_eq_true e
      rw [hs, if_pos q]; exact Is.loc rfl nofun
    · have q : ¬ m = [47] := of_decide_eq_false e
      rw [hs, if_neg q]; exact Is.sub L1 (Is.mul (p := wholeS l r) (Is.loc rfl nofun) L2 (IntMulOk.of_le wb br (by decide)))
    · rintro _ σ5 l5 rfl
      exact h σ5 ((((l1.trans l2).trans l3).trans l4).trans l5)
  rw [eq_any2] at e
  have c : ¬ (m = [47] ∨ m = [37]) := of_decide_eq_false e
  refine skip_next (seq_ite (Is.inTup2 L0) (fun e σ2 l2 => ?_) fun e σ2 l2 => ?_)
  · rw [eq_any2] at e
    have c2 : m = [60, 60] ∨ m = [62, 62] := of_decide_eq_true e
    have l12 := l1.trans l2
    refine seq_ite (Is.or (Is.lt L2 Is.int) fun _ => Is.gt L2 Is.int) (fun e σ3 l3 => ?_) fun e σ3 l3 => ?_
    · have hr : r < 0 ∨ 63 < r := by simpa using e
      refine ret_is Is.none fun σ4 l4 => ?_
      have := h σ4 ((l12.trans l3).trans l4)
      rw [show reckS m l r = none by unfold reckS; rw [if_neg c, if_pos c2, if_pos hr]] at this
      exact this
    have hr : ¬ (r < 0 ∨ 63 < r) := by
      simp only [Bool.or_eq_false_iff, decide_eq_false_iff_not] at e
      omega
    have hs : reckS m l r = some (if m = [60, 60] then l * 2 ^ r.toNat else l.fdiv (2 ^ r.toNat)) := by unfold reckS; rw [if_neg c, if_pos c2, if_neg hr]
    have tb := two_bits (j := r) (by omega)
    have tp : (2 : Int) ^ r.toNat ≠ 0 := by
      have : (0 : Int) < 2 ^ r.toNat := Int.pow_pos (by decide)
      omega
    refine skip_next (seq_ret (P := fun v _ => v = optV (reckS m l r)) (Is.ife (Is.eqS L0 Is.str) (fun e => ?_) fun e => ?_) ?_)
    · have q : m = [60, 60] := of_decide_eq_true e
      rw [hs, if_pos q]; exact Is.mul L1 (Is.pow2 L2 (by omega) (by omega)) (IntMulOk.of_le bl tb (by decide))
    · have q : ¬ m = [60, 60] := of_decide_eq_false e
      rw [hs, if_neg q]
      refine Is.fdiv L1 (Is.pow2 L2 (by omega) (by omega)) tp ?_
      have h0 : (2 ^ r.toNat : Int).natAbs ≠ 0 := by omega
      have := (Nat.log2_lt h0).mpr (intBits_le_iff.mp tb)
      omega
    · rintro _ σ5 l5 rfl
      exact h σ5 ((l12.trans l3).trans l5)
  rw [eq_any2] at e
  have c2 : ¬ (m = [60, 60] ∨ m = [62, 62]) := of_decide_eq_false e
  refine skip_next (seq_ite (Is.eqS L0 Is.str) (fun e σ3 l3 => ?_) fun e σ3 l3 => ?_)
  · have c3 : m = [42] := of_decide_eq_true e
    refine ret_is (Is.mul L1 L2 (IntMulOk.of_le bl br (by decide))) fun σ4 l4 => ?_
    have := h σ4 (((l1.trans l2).trans l3).trans l4)
    rw [show reckS m l r = some (l * r) by unfold reckS; rw [if_neg c, if_neg c2, if_pos c3]] at this
    exact this
  have c3 : ¬ m = [42] := of_decide_eq_false e
  have hs : reckS m l r = some (if m = [38] then Builtin.bitAnd l r else if m = [124] then Builtin.bitOr l r else Builtin.bitXor l r) := by unfold reckS; rw [if_neg c, if_neg c2, if_neg c3]
  refine skip_next (seq_ret (P := fun v _ => v = optV (reckS m l r)) (Is.ife (Is.eqS L0 Is.str) (fun e => ?_) fun e => Is.ife (Is.eqS L0 Is.str) (fun e' => ?_) fun e' => ?_) ?_)
  · rw [hs, if_pos (of_decide_eq_true e)]; exact Is.band L1 L2
  · rw [hs, if_neg (of_decide_eq_false e), if_pos (of_decide_eq_true e')]; exact Is.bor L1 L2
  · rw [hs, if_neg (of_decide_eq_false e), if_neg (of_decide_eq_false e')]; exact Is.bxor L1 L2
  · rintro _ σ4 l4 rfl
    exact h σ4 (((l1.trans l2).trans l3).trans l4)

theorem CmAt.ne {σ : AH} {v : AV} {c : Option Cm} (h : CmAt σ v c) : v ≠ .unb := by
  cases c with
  | none => rw [show v = .none from h]; nofun
  | some c => obtain ⟨r, p, m, e, _⟩ := h; rw [e]; nofun
theorem CmAt.isNone {σ : AH} {v : AV} {c : Option Cm} (h : CmAt σ v c) : decide (v = .none) = c.isNone := by
  cases c with
  | none => rw [show v = .none from h]; rfl
  | some c => obtain ⟨r, p, m, e, _⟩ := h; rw [e]; rfl

theorem comes_ok : ∀ (T : Tr) {a : Nat} {σ : AH} {K : VQ} {E : AH → Prop}, T.ok → T.bits ≤ 8000 → TreeAt σ a T → (∀ v σ', Al σ σ' → CmAt σ' v T.comes → K v σ') → ∀ n, T.nodes + 3 ≤ n → cwp theProg n 20 [.ref a] σ K E := by
  intro T
  induction T with
  | num v t =>
    intro a σ K E ok hB ht h n hn
    obtain ⟨m, rfl⟩ : ∃ m, n = m + 3 := ⟨n - 3, by omega⟩
    refine defCall (fn := _) rfl rfl (by simp) ?_
    refine seq_ite (Is.eqS (Is.idxTup (Is.loc (x := .ref a) rfl nofun) Is.int ht (by decide) (by decide) rfl) Is.str) (fun e σ1 l1 => ?_) fun e σ1 l1 => absurd e (by decide)
    refine seq_ret (Ev.cmNew (Is.idxTup (z := .int v) (Is.loc (x := .ref a) rfl nofun) Is.int (l1.get ht) (by decide) (by decide) rfl)) ?_
    exact fun u σ2 l2 hu => h u σ2 (l1.trans l2) hu
  | name s =>
    intro a σ K E ok hB ht h n hn
    obtain ⟨m, rfl⟩ : ∃ m, n = m + 3 := ⟨n - 3, by omega⟩
    refine defCall (fn := _) rfl rfl (by simp) ?_
    refine seq_ite (Is.eqS (Is.idxTup (Is.loc (x := .ref a) rfl nofun) Is.int ht (by decide) (by decide) rfl) Is.str) (fun e σ1 l1 => absurd e (by decide)) fun e σ1 l1 => ?_
    have h1 := l1.get ht
    refine skip_next (seq_ite (Is.eqS (Is.idxTup (Is.loc (x := .ref a) rfl nofun) Is.int h1 (by decide) (by decide) rfl) Is.str) (fun e σ2 l2 => ?_) fun e σ2 l2 => absurd e (by decide))
    refine seq_retE (tup3E ?_)
    refine (Is.idxTup (z := .str s) (Is.loc (x := .ref a) rfl nofun) Is.int (l2.get h1) (by decide) (by decide) rfl).runK fun σ3 l3 => new fun p σ4 _ hp l4 => ?_
    show newO σ4 (.list []) _
    refine new fun q σ5 _ hq l5 => ?_
    show newO σ5 (.tup [.ref p, .ref q, .int 0]) _
    refine new fun r σ6 _ hr l6 => ?_
    exact h _ σ6 (((((l1.trans l2).trans l3).trans l4).trans l5).trans l6) ⟨r, p, q, rfl, hr, (l5.trans l6).get hp, l6.get hq⟩
  | ahead c T ih =>
    intro a σ K E ok hB ht h n hn
    obtain ⟨m, rfl⟩ : ∃ m, n = m + 3 := ⟨n - 3, by omega⟩
    obtain ⟨t, ha, hT⟩ := ht
    refine defCall (fn := _) rfl rfl (by simp) ?_
    show swp _ _ [.ref a, .unb, .unb, .unb] _ _ _
    have A : ∀ {σ' : AH} {i : Int} {z o1 o2 o3 : AV}, Al σ σ' → 0 ≤ i → i < 1000000 → [AV.str wAHEAD, .str [c], .ref t][i.toNat]? = some z → Is (cwp theProg (m + 2)) (.idx (.loc 0) (.int i)) [.ref a, o1, o2, o3] σ' z := fun l h0 h1 hz => Is.idxTup (Is.loc (x := .ref a) rfl nofun) Is.int (l.get ha) h0 h1 hz
    refine seq_ite (Is.eqS (A (Kp.refl _ _) (by decide) (by decide) rfl) Is.str) (fun e σ1 l1 => absurd e (by decide)) fun e σ1 l1 => skip_next ?_
    refine seq_ite (Is.eqS (A l1 (by decide) (by decide) rfl) Is.str) (fun e σ2 l2 => absurd e (by decide)) fun e σ2 l2 => skip_next ?_
    have l12 := l1.trans l2
    refine seq_asgE (call1_ok (A l12 (by decide) (by decide) rfl) fun σ3 l3 => ?_)
    have l13 := l12.trans l3
    simp only [Tr.nodes, Tr.bits] at hn hB
    refine ih ok.2 (by omega) (hT.al l13) (fun v σ4 l4 hv => ⟨hv.ne, ?_⟩) _ (by omega)
    have l14 := l13.trans l4
    show swp _ _ [.ref a, v, .unb, .unb] _ _ _
    have L1 : ∀ {C : CallT} {σ : AH}, Is C (.loc 1) [.ref a, v, .unb, .unb] σ v := Is.loc rfl hv.ne
    refine seq_ite (Is.isNone L1 hv.ne) (fun e σ5 l5 => ?_) fun e σ5 l5 => skip_next ?_
    · rw [hv.isNone] at e
      refine ret_is Is.none fun σ6 l6 => ?_
      refine h _ σ6 ((l14.trans l5).trans l6) ?_
      have : T.comes = none := by simpa using e
      simp only [Tr.comes, this]; rfl
    rw [hv.isNone] at e
    cases hc : T.comes with
    | none => rw [hc] at e; cases e
    | some cm =>
    rw [hc] at hv
    have hok := comes_cmok T cm ok.2 hc
    have hcs : (Tr.ahead c T).comes = if c = 43 then some cm else if c = 45 then some (cm.2.1, cm.1, -cm.2.2) else if cm.1 = [] ∧ cm.2.1 = [] then some ([], [], -1 - cm.2.2) else none := by simp only [Tr.comes, hc, Option.bind_some]
    have l15 := l14.trans l5
    have hv5 := hv.al l5
    obtain ⟨r, p, q, rfl, v1, v2, v3⟩ := hv5
    refine seq_ite (Is.eqS (A l15 (by decide) (by decide) rfl) Is.str) (fun e σ6 l6 => ?_) fun e σ6 l6 => absurd e (by decide)
    refine seq_ite (Is.eqS (A (l15.trans l6) (by decide) (by decide) rfl) Is.str) (fun e σ7 l7 => ?_) fun e σ7 l7 => skip_next ?_
    · have q1 : c = 43 := by have : [c] = [43] := of_decide_eq_true e; simpa using this
      refine ret_is L1 fun σ8 l8 => ?_
      have l58 := (l6.trans l7).trans l8
      refine h _ σ8 (l15.trans l58) ?_
      rw [hcs, if_pos q1]
      exact ⟨r, p, q, rfl, l58.get v1, l58.get v2, l58.get v3⟩
    have q1 : ¬ c = 43 := by have : ¬ [c] = [43] := of_decide_eq_false e; simpa using this
    have l57 := l6.trans l7
    have B : ∀ {σ' : AH} {i : Int} {z : AV}, Al σ5 σ' → 0 ≤ i → i < 1000000 → [AV.ref p, .ref q, .int cm.2.2][i.toNat]? = some z → Is (cwp theProg (m + 2)) (.idx (.loc 1) (.int i)) [.ref a, .ref r, .unb, .unb] σ' z := fun l h0 h1 hz => Is.idxTup L1 Is.int (l.get v1) h0 h1 hz
    refine seq_ite (Is.eqS (A (l15.trans l57) (by decide) (by decide) rfl) Is.str) (fun e σ8 l8 => ?_) fun e σ8 l8 => skip_next ?_
    · have q2 : c = 45 := by have : [c] = [45] := of_decide_eq_true e; simpa using this
      have l58 := l57.trans l8
      refine seq_ret (Ev.tup3 (B l58 (by decide) (by decide) rfl) (B l58 (by decide) (by decide) rfl) (Is.neg (p := cm.2.2) (B l58 (by decide) (by decide) rfl))) ?_
      rintro _ σ9 l9 ⟨r', rfl, hr'⟩
      have l59 := l58.trans l9
      refine h _ σ9 (l15.trans l59) ?_
      rw [hcs, if_neg q1, if_pos q2]
      exact ⟨r', q, p, rfl, hr', l59.get v3, l59.get v2⟩
    have q2 : ¬ c = 45 := by have : ¬ [c] = [45] := of_decide_eq_false e; simpa using this
    have l58 := l57.trans l8
    refine seq_ret (P := fun u σ' => CmAt σ' u (Tr.ahead c T).comes) (Is.ife (Is.eqNames L1 (l58.get v1) (l58.get v2) (l58.get v3) hok.1 hok.2.1) (fun e => ?_) fun e => ?_) fun u σ9 l9 hu => h u σ9 (l15.trans (l58.trans l9)) hu
    · have q3 : cm.1 = [] ∧ cm.2.1 = [] := by simpa using e
      rw [hcs, if_neg q1, if_neg q2, if_pos q3]
      exact Ev.cmNew (Is.sub (Is.neg Is.int) (B l58 (by decide) (by decide) rfl))
    · have q3 : ¬ (cm.1 = [] ∧ cm.2.1 = []) := by simpa using e
      rw [hcs, if_neg q1, if_neg q2, if_neg q3]
      exact Is.none
  | both mk T R ihl ihr =>
    intro a σ K E ok hB ht h n hn
    obtain ⟨m, rfl⟩ : ∃ m, n = m + 3 := ⟨n - 3, by omega⟩
    obtain ⟨t, t', ha, hT, hR⟩ := ht
    refine defCall (fn := _) rfl rfl (by simp) ?_
    show swp _ _ [.ref a, .unb, .unb, .unb] _ _ _
    have A : ∀ {σ' : AH} {i : Int} {z o1 o2 o3 : AV}, Al σ σ' → 0 ≤ i → i < 1000000 → [AV.str wBOTH, .str mk, .ref t, .ref t'][i.toNat]? = some z → Is (cwp theProg (m + 2)) (.idx (.loc 0) (.int i)) [.ref a, o1, o2, o3] σ' z := fun l h0 h1 hz => Is.idxTup (Is.loc (x := .ref a) rfl nofun) Is.int (l.get ha) h0 h1 hz
    refine seq_ite (Is.eqS (A (Kp.refl _ _) (by decide) (by decide) rfl) Is.str) (fun e σ1 l1 => absurd e (by decide)) fun e σ1 l1 => skip_next ?_
    refine seq_ite (Is.eqS (A l1 (by decide) (by decide) rfl) Is.str) (fun e σ2 l2 => absurd e (by decide)) fun e σ2 l2 => skip_next ?_
    have l12 := l1.trans l2
    refine seq_asgE (call1_ok (A l12 (by decide) (by decide) rfl) fun σ3 l3 => ?_)
    have l13 := l12.trans l3
    have hB0 := hB
    simp only [Tr.nodes, Tr.bits] at hn hB
    refine ihl ok.2.1 (by omega) (hT.al l13) (fun v σ4 l4 hv => ⟨hv.ne, ?_⟩) _ (by omega)
    have l14 := l13.trans l4
    show swp _ _ [.ref a, v, .unb, .unb] _ _ _
    have L1 : ∀ {C : CallT} {σ : AH} {o o' : AV}, Is C (.loc 1) [.ref a, v, o, o'] σ v := Is.loc rfl hv.ne
    refine seq_ite (Is.isNone L1 hv.ne) (fun e σ5 l5 => ?_) fun e σ5 l5 => skip_next ?_
    · rw [hv.isNone] at e
      refine ret_is Is.none fun σ6 l6 => ?_
      refine h _ σ6 ((l14.trans l5).trans l6) ?_
      have : T.comes = none := by simpa using e
      simp only [Tr.comes, this]; rfl
    rw [hv.isNone] at e
    cases hc : T.comes with
    | none => rw [hc] at e; cases e
    | some cm =>
    rw [hc] at hv
    have hok := comes_cmok T cm ok.2.1 hc
    have hbt := comes_bits ok.2.1 hc
    have l15 := l14.trans l5
    have hv5 := hv.al l5
    obtain ⟨r, p, q, rfl, v1, v2, v3⟩ := hv5
    refine seq_ite (Is.eqS (A l15 (by decide) (by decide) rfl) Is.str) (fun e σ6 l6 => absurd e (by decide)) fun e σ6 l6 => skip_next ?_
    refine seq_asgE (call1_ok (A (l15.trans l6) (by decide) (by decide) rfl) fun σ7 l7 => ?_)
    have l57 := l6.trans l7
    refine ihr ok.2.2 (by omega) (hR.al (l15.trans l57)) (fun u σ8 l8 hu => ⟨hu.ne, ?_⟩) _ (by omega)
    have l58 := l57.trans l8
    show swp _ _ [.ref a, .ref r, u, .unb] _ _ _
    have L2 : ∀ {C : CallT} {σ : AH} {o : AV}, Is C (.loc 2) [.ref a, .ref r, u, o] σ u := Is.loc rfl hu.ne
    refine seq_ite (Is.isNone L2 hu.ne) (fun e σ9 l9 => ?_) fun e σ9 l9 => skip_next ?_
    · rw [hu.isNone] at e
      refine ret_is Is.none fun σ10 l10 => ?_
      refine h _ σ10 (((l15.trans l58).trans l9).trans l10) ?_
      have : R.comes = none := by simpa using e
      simp only [Tr.comes, this, hc]; rfl
    rw [hu.isNone] at e
    cases hd : R.comes with
    | none => rw [hd] at e; cases e
    | some cn =>
    rw [hd] at hu
    have hok' := comes_cmok R cn ok.2.2 hd
    have hbt' := comes_bits ok.2.2 hd
    have hcs : (Tr.both mk T R).comes = if mk = [43] then addS cm cn else if mk = [45] then addS cm (cn.2.1, cn.1, -cn.2.2) else if ¬ (cm.1 = [] ∧ cm.2.1 = []) ∨ ¬ (cn.1 = [] ∧ cn.2.1 = []) then none else (reckS mk cm.2.2 cn.2.2).map fun n => ([], [], n) := by simp only [Tr.comes, hc, hd, Option.bind_some]
    have l59 := l58.trans l9
    have hu9 := hu.al l9
    obtain ⟨r', p', q', rfl, u1, u2, u3⟩ := hu9
    have hv9 : CmAt σ9 (.ref r) (some cm) := ⟨r, p, q, rfl, l59.get v1, l59.get v2, l59.get v3⟩
    have hu9 : CmAt σ9 (.ref r') (some cn) := ⟨r', p', q', rfl, u1, u2, u3⟩
    have l09 := l15.trans l59
    refine seq_ite (Is.eqS (A l09 (by decide) (by decide) rfl) Is.str) (fun e σ10 l10 => ?_) fun e σ10 l10 => skip_next ?_
    · have q1 : mk = [43] := of_decide_eq_true e
      refine seq_retE (call2_ok L1 L2 fun σ11 l11 => added_ok (hv9.al (l10.trans l11)) (hu9.al (l10.trans l11)) hok hok' fun v' σ12 l12' hv' => ?_)
      refine h v' σ12 (((l09.trans l10).trans l11).trans l12') ?_
      rw [hcs, if_pos q1]; exact hv'
    have q1 : ¬ mk = [43] := of_decide_eq_false e
    have B : ∀ {σ' : AH} {i : Int} {z o : AV}, Al σ9 σ' → 0 ≤ i → i < 1000000 → [AV.ref p', .ref q', .int cn.2.2][i.toNat]? = some z → Is (cwp theProg (m + 2)) (.idx (.loc 2) (.int i)) [.ref a, .ref r, .ref r', o] σ' z := fun l h0 h1 hz => Is.idxTup L2 Is.int (l.get u1) h0 h1 hz
    have D : ∀ {σ' : AH} {i : Int} {z o : AV}, Al σ9 σ' → 0 ≤ i → i < 1000000 → [AV.ref p, .ref q, .int cm.2.2][i.toNat]? = some z → Is (cwp theProg (m + 2)) (.idx (.loc 1) (.int i)) [.ref a, .ref r, .ref r', o] σ' z := fun l h0 h1 hz => Is.idxTup L1 Is.int ((l59.trans l).get v1) h0 h1 hz
    refine seq_ite (Is.eqS (A (l09.trans l10) (by decide) (by decide) rfl) Is.str) (fun e σ11 l11 => ?_) fun e σ11 l11 => skip_next ?_
    · have q2 : mk = [45] := of_decide_eq_true e
      have l911 := l10.trans l11
      refine seq_retE (call2E (L1.runK fun σ12 l12' => ?_))
      have l912 := l911.trans l12'
      refine (Ev.tup3 (B l912 (by decide) (by decide) rfl) (B l912 (by decide) (by decide) rfl) (Is.neg (p := cn.2.2) (B l912 (by decide) (by decide) rfl))).runK ?_
      rintro _ σ13 l13' ⟨r'', rfl, hr''⟩
      have l913 := l912.trans l13'
      refine added_ok (b := (cn.2.1, cn.1, -cn.2.2)) (hv9.al l913) ⟨r'', q', p', rfl, hr'', l913.get u3, l913.get u2⟩ hok ⟨hok'.2.1, hok'.1, hok'.2.2.2, hok'.2.2.1⟩ fun v' σ14 l14' hv' => ?_
      refine h v' σ14 ((l09.trans l913).trans l14') ?_
      rw [hcs, if_neg q1, if_pos q2]; exact hv'
    have q2 : ¬ mk = [45] := of_decide_eq_false e
    have l911 := l10.trans l11
    obtain ⟨_, _, _, hvq, w1, w2, w3⟩ := hv9
    cases hvq
    refine seq_ite (Is.or (Is.neNames L1 (l911.get w1) (l911.get w2) (l911.get w3) hok.1 hok.2.1) fun _ => Is.neNames L2 (l911.get u1) (l911.get u2) (l911.get u3) hok'.1 hok'.2.1) (fun e σ12 l12' => ?_) fun e σ12 l12' => skip_next ?_
    · have q3 : ¬ (cm.1 = [] ∧ cm.2.1 = []) ∨ ¬ (cn.1 = [] ∧ cn.2.1 = []) := by simpa [-not_and, Classical.not_and_iff_not_or_not] using e
      refine ret_is Is.none fun σ13 l13' => ?_
      refine h _ σ13 ((l09.trans (l911.trans l12')).trans l13') ?_
      rw [hcs, if_neg q1, if_neg q2, if_pos q3]; rfl
    have q3 : ¬ (¬ (cm.1 = [] ∧ cm.2.1 = []) ∨ ¬ (cn.1 = [] ∧ cn.2.1 = [])) := by simpa using e
    have l912 := l911.trans l12'
    have hcs' : (Tr.both mk T R).comes = (reckS mk cm.2.2 cn.2.2).map fun n => ([], [], n) := by rw [hcs, if_neg q1, if_neg q2, if_neg q3]
    refine seq_asgE (call3_ok (A (l09.trans l912) (by decide) (by decide) rfl) (D l912 (by decide) (by decide) rfl) (B l912 (by decide) (by decide) rfl) fun σ13 l13' => ?_)
    refine reckoned_ok ok.1 (by omega) (by omega) fun σ14 l14' => ⟨by cases reckS mk cm.2.2 cn.2.2 <;> nofun, ?_⟩
    have l014 := ((l09.trans l912).trans l13').trans l14'
    show swp _ _ [.ref a, .ref r, .ref r', optV (reckS mk cm.2.2 cn.2.2)] _ _ _
    cases hr : reckS mk cm.2.2 cn.2.2 with
    | none =>
      refine ret_is (Is.ife (P := fun v _ => v = .none) (Is.isNone (x := .none) (Is.loc rfl nofun) nofun) (fun e => Is.none) fun e => absurd e (by decide)) fun σ15 l15' => ?_
      refine h _ σ15 (l014.trans l15') ?_
      rw [hcs', hr]; rfl
    | some k =>
      refine seq_ret (Is.ife (P := fun v σ' => CmAt σ' v (some ([], [], k))) (Is.isNone (x := .int k) (Is.loc rfl nofun) nofun) (fun e => absurd e (by simp)) fun e => Ev.cmNew (Is.loc rfl nofun)) ?_
      intro v σ15 l15' hv
      refine h _ σ15 (l014.trans l15') ?_
      rw [hcs', hr]; exact hv
end
end Nm
end

section
open PySem PySem.W PyProof.Rows
set_option tactic.hygienic false
set_option maxRecDepth 100000
set_option maxHeartbeats 2000000
set_option linter.unusedVariables false
set_option linter.unusedSimpArgs false
namespace Nm
section
variable {C : CallT} {a b c d e : AE} {ρ : List AV} {σ : AH} {E : AH → Prop} {x y z u : AV} {Q : SQ} {s s' t : AS} {K : VQ}
theorem Is.slc {s : List Nat} {l u : AV} {x y : Option Int} (h : Is C a ρ σ (.str s)) (hl : Is C b ρ σ l) (hu : Is C c ρ σ u) (ex : optI l = some x) (ey : optI u = some y) (hs : s.length ≤ 1000000) : Is C (.slc a b c) ρ σ (.str (cutS s x y)) := fun σ₀ l K E k => by
  refine slcE (Is.runK (h.at l) fun σ1 l1 => Is.runK (hl.at (l.trans l1)) fun σ2 l2 => Is.runK (hu.at ((l.trans l1).trans l2)) fun σ3 l3 => ?_)
  exact ⟨x, y, ex, ey, bigOf hs, k _ _ ((l1.trans l2).trans l3) rfl⟩
theorem Is.slcTo {s : List Nat} {n : Nat} (h : Is C a ρ σ (.str s)) (hu : Is C c ρ σ (.int (n : Nat))) (hs : s.length ≤ 1000000) : Is C (.slc a .none c) ρ σ (.str (s.take n)) := Is.cong (Is.slc h Is.none hu rfl rfl hs) (by rw [cut_to])
theorem Is.slcFrom {s : List Nat} {n : Nat} (h : Is C a ρ σ (.str s)) (hu : Is C c ρ σ (.int (n : Nat))) (hs : s.length ≤ 1000000) : Is C (.slc a c .none) ρ σ (.str (s.drop n)) := Is.cong (Is.slc h hu Is.none rfl rfl hs) (by rw [cut_from])
theorem Is.slcBoth {s : List Nat} {m n : Nat} (h : Is C a ρ σ (.str s)) (hl : Is C b ρ σ (.int (m : Nat))) (hu : Is C c ρ σ (.int (n : Nat))) (hmn : m ≤ n) (hs : s.length ≤ 1000000) : Is C (.slc a b c) ρ σ (.str ((s.drop m).take (n - m))) := Is.cong (Is.slc h hl hu rfl rfl hs) (by rw [cut_both _ _ _ hmn])
theorem Is.slcLast {s : List Nat} (h : Is C a ρ σ (.str s)) (hs : s.length ≤ 1000000) : Is C (.slc a (.neg (.int 1)) .none) ρ σ (.str (s.drop (s.length - 1))) := Is.cong (Is.slc h (Is.neg Is.int) Is.none rfl rfl hs) (by rw [cut_last])
theorem Is.slcInit {s : List Nat} (h : Is C a ρ σ (.str s)) (hs : s.length ≤ 1000000) : Is C (.slc a .none (.neg (.int 1))) ρ σ (.str (s.take (s.length - 1))) := Is.cong (Is.slc h Is.none (Is.neg Is.int) rfl rfl hs) (by rw [cut_init])
theorem Is.isdigit {s : List Nat} (h : Is C a ρ σ (.str s)) : Is C (.m0 .isdigit a) ρ σ (.bool (Txt.isdigit ⟨s.toArray⟩)) := fun σ₀ l K E k => Is.runK (h.at l) (K := fun x σ₁ => m0V .isdigit x σ₁ K) fun σ1 l1 => ⟨s, rfl, k _ _ l1 rfl⟩
theorem Is.lower {s : List Nat} (h : Is C a ρ σ (.str s)) (hl : s.length ≤ 1000) (hc : ∀ c ∈ s, c < 128) : Is C (.m0 .lower a) ρ σ (.str (s.map lo1)) := fun σ₀ l K E k => Is.runK (h.at l) (K := fun x σ₁ => m0V .lower x σ₁ K) fun σ1 l1 => ⟨s, rfl, hl, hc, k _ _ l1 rfl⟩
theorem Is.startswith {s p : List Nat} (h : Is C a ρ σ (.str s)) (h' : Is C b ρ σ (.str p)) : Is C (.m1 .startswith a b) ρ σ (.bool (Txt.startswith ⟨s.toArray⟩ ⟨p.toArray⟩)) := fun σ₀ l K E k =>
  Is.runK (h.at l) (K := fun x σ₁ => ∃ k, m1K .startswith x σ₁ k ∧ ewp C b ρ σ₁ (fun y σ₂ => m1V k x y σ₂ K) E) fun σ1 l1 => ⟨.startswith, ⟨rfl, s, rfl⟩, Is.runK (h'.at (l.trans l1)) (K := fun y σ₂ => m1V .startswith (.str s) y σ₂ K) fun σ2 l2 => ⟨s, p, rfl, rfl, k _ _ (l1.trans l2) rfl⟩⟩
theorem Is.find {s p : List Nat} (h : Is C a ρ σ (.str s)) (h' : Is C b ρ σ (.str p)) : Is C (.m1 .find a b) ρ σ (.int (Txt.find ⟨s.toArray⟩ ⟨p.toArray⟩)) := fun σ₀ l K E k =>
  Is.runK (h.at l) (K := fun x σ₁ => ∃ k, m1K .find x σ₁ k ∧ ewp C b ρ σ₁ (fun y σ₂ => m1V k x y σ₂ K) E) fun σ1 l1 => ⟨.find, ⟨rfl, s, rfl⟩, Is.runK (h'.at (l.trans l1)) (K := fun y σ₂ => m1V .find (.str s) y σ₂ K) fun σ2 l2 => ⟨s, p, rfl, rfl, k _ _ (l1.trans l2) rfl⟩⟩
theorem Ev.mkPiece {k t : List Nat} {v : Int} (h : Is C a ρ σ (.str k)) (h' : Is C b ρ σ (.str t)) (h'' : Is C c ρ σ (.int v)) : Ev C (.mk 1 a b c) ρ σ fun u σ' => ∃ r, u = .ref r ∧ σ' r = some (.piece k t (.int v)) := fun σ₀ l K E g => Is.go (h.at l) fun σ1 l1 => Is.go (h'.at (l.trans l1)) fun σ2 l2 => Is.go (h''.at ((l.trans l1).trans l2)) fun σ3 l3 =>
  ⟨k, t, rfl, rfl, rfl, new fun c σ₄ _ hc l₄ => g _ σ₄ (((l1.trans l2).trans l3).trans l₄) ⟨c, rfl, hc⟩⟩

/-! number_end -/
theorem end_loop {row : List Nat} (h128 : ∀ c ∈ row, c < 128) (hlen : row.length ≤ 100000) {R : SQ} {o1 : AV} : ∀ (k j : Nat) (σ : AH), row.length - j ≤ k → j ≤ row.length →
    (∀ σ', Al σ σ' → R .next [.str row, o1, .int ((j + ((row.drop j).takeWhile inS).length : Nat))] σ') →
    whileN (fun ρ σ q => ewp C (.and (.cmp .lt (.loc 2) (.b1 .len (.loc 0))) (.cmp .isin (.idx (.loc 0) (.loc 2)) (.gv 2))) ρ σ q E)
      (fun ρ σ q => swp C (.seq (.asg 2 (.bin .add (.loc 2) (.int 1))) .skip) ρ σ q E) R (k + 1) [.str row, o1, .int (j : Nat)] σ := by
  intro k
  induction k with
  | zero =>
    intro j σ hk hj hR
    have hd : row.drop j = [] := List.drop_eq_nil_of_le (by omega)
    refine (Is.and (q := true) (Is.lt (Is.loc (x := .int (j : Nat)) rfl nofun) (Is.lenS (p := row) (Is.loc rfl nofun) (by omega))) fun e => absurd (of_decide_eq_true e) (by omega)).runK fun σ1 l1 => ?_
    show (if (decide ((j : Int) < row.length) && true) = true then _ else _)
    rw [if_neg (by simp; omega)]
    have := hR σ1 l1
    rw [hd] at this
    exact this
  | succ k ih =>
    intro j σ hk hj hR
    by_cases hjl : j < row.length
    · have hc := h128 row[j] (List.getElem_mem hjl)
      have hd : row.drop j = row[j] :: row.drop (j + 1) := List.drop_eq_getElem_cons hjl
      refine (Is.and (Is.lt (Is.loc (x := .int (j : Nat)) rfl nofun) (Is.lenS (p := row) (Is.loc rfl nofun) (by omega))) fun e => Is.inStr (Is.idxS (i := (j : Nat)) (c := row[j]) (Is.loc (x := .str row) rfl nofun) (Is.loc (x := .int (j : Nat)) rfl nofun) (by omega) (by omega) (by simp)) (Is.gv (g := 2))).runK fun σ1 l1 => ?_
      rw [in_sign _ hc]
      show (if (decide ((j : Int) < row.length) && inS row[j]) = true then _ else _)
      cases hs : inS row[j] with
      | true =>
        rw [if_pos (by simp; omega)]
        refine seq_let (x := .int ((j + 1 : Nat) : Int)) (Is.cong (Is.add (Is.loc (x := .int (j : Nat)) rfl nofun) Is.int) (by simp)) nofun fun σ2 l2 => skip_end ?_
        refine ih (j + 1) σ2 (by omega) (by omega) fun σ3 l3 => ?_
        have := hR σ3 ((l1.trans l2).trans l3)
        rw [hd, List.takeWhile_cons, hs, if_pos rfl, List.length_cons] at this
        rw [show j + 1 + ((row.drop (j + 1)).takeWhile inS).length = j + (((row.drop (j + 1)).takeWhile inS).length + 1) by omega]
        exact this
      | false =>
        rw [if_neg (by simp)]
        have := hR σ1 l1
        rw [hd, List.takeWhile_cons, hs] at this
        exact this
    · have hd : row.drop j = [] := List.drop_eq_nil_of_le (by omega)
      refine (Is.and (q := true) (Is.lt (Is.loc (x := .int (j : Nat)) rfl nofun) (Is.lenS (p := row) (Is.loc rfl nofun) (by omega))) fun e => absurd (of_decide_eq_true e) (by omega)).runK fun σ1 l1 => ?_
      show (if (decide ((j : Int) < row.length) && true) = true then _ else _)
      rw [if_neg (by simp; omega)]
      have := hR σ1 l1
      rw [hd] at this
      exact this
theorem end_ok {n j : Nat} {row : List Nat} (h128 : ∀ c ∈ row, c < 128) (hlen : row.length ≤ 100000) (hj : j ≤ row.length) (h : ∀ σ', Al σ σ' → K (.int ((j + ((row.drop j).takeWhile inS).length : Nat))) σ') : cwp theProg (n + 1) 1 [.str row, .int (j : Nat)] σ K E := by
  refine defCall (fn := _) rfl rfl (by simp) ?_
  refine seq_let (Is.loc (x := .int (j : Nat)) rfl nofun) nofun fun σ1 l1 => ?_
  show swp _ _ [.str row, .int (j : Nat), .int (j : Nat)] σ1 _ E
  refine ⟨row.length - j + 1, end_loop h128 hlen (row.length - j) j σ1 (Nat.le_refl _) hj fun σ2 l2 => ?_⟩
  refine ret_is (Is.loc (x := .int ((j + ((row.drop j).takeWhile inS).length : Nat) : Int)) rfl nofun) fun σ3 l3 => ?_
  exact h σ3 ((l1.trans l2).trans l3)
theorem Is.numEnd {n j : Nat} {row : List Nat} (h : Is (cwp theProg (n + 1)) a ρ σ (.str row)) (h' : Is (cwp theProg (n + 1)) b ρ σ (.int (j : Nat))) (h128 : ∀ c ∈ row, c < 128) (hlen : row.length ≤ 100000) (hj : j ≤ row.length) :
    Is (cwp theProg (n + 1)) (.call2 1 a b) ρ σ (.int ((j + ((row.drop j).takeWhile inS).length : Nat))) := fun σ₀ l K E k => call2_ok (h.at l) (h'.at l) fun σ' l' => end_ok h128 hlen hj fun σ'' l'' => k _ σ'' (l'.trans l'') rfl

/-! number_value -/
noncomputable def valBody : AS := (.seq (.asg 5 (.m1 .find (.str [48, 49, 50, 51, 52, 53, 54, 55, 56, 57, 97, 98, 99, 100, 101, 102]) (.loc 4)))
        (.seq (.ite (.or (.cmp .lt (.loc 5) (.int 0)) (.cmp .ge (.loc 5) (.loc 1)))
          (.seq (.ret (.neg (.int 1)))
            .skip)
          .skip)
        (.seq (.asg 3 (.bin .add (.bin .mul (.loc 3) (.loc 1)) (.loc 5)))
        .skip)))
theorem val_loop {t d : List Nat} {b : Int} (hb : 0 ≤ b) (hb' : b ≤ 16) : ∀ (l : List Nat) (v : Int) (σ : AH) (o4 o5 : AV), (∀ c ∈ l, c < 128) →
    (∀ v' o4' o5' σ', numL b l v = some v' → Al σ σ' → Q .next [.str t, .int b, .str d, .int v', o4', o5'] σ') →
    (∀ ρ' σ', numL b l v = none → Al σ σ' → Q (.ret (.int (-1))) ρ' σ') →
    forN (fun _ => True) (fun x ρ => ρ.set 4 x) (fun ρ σ q => swp C valBody ρ σ q E) Q (l.map fun c => .str [c]) [.str t, .int b, .str d, .int v, o4, o5] σ
  | [], v, σ, o4, o5, _, h1, _ => ⟨trivial, h1 v o4 o5 σ rfl (Kp.refl _ _)⟩
  | c :: l, v, σ, o4, o5, hc, h1, h2 => by
    refine ⟨trivial, ?_⟩
    have c128 := hc c (by simp)
    unfold valBody
    refine seq_let (x := .int (placeOf c)) (Is.cong (Is.find Is.str (Is.loc (x := .str [c]) rfl nofun)) (by rw [← find_hex c c128]; rfl)) nofun fun σ1 l1 => ?_
    show swp _ _ [.str t, .int b, .str d, .int v, .str [c], .int (placeOf c)] σ1 _ E
    refine seq_ite (Is.or (Is.lt (Is.loc (x := .int (placeOf c)) rfl nofun) Is.int) fun _ => Is.ge (Is.loc (x := .int (placeOf c)) rfl nofun) (Is.loc (x := .int b) rfl nofun)) (fun e σ2 l2 => ?_) fun e σ2 l2 => skip_next ?_
    · refine ret_is (Is.neg Is.int) fun σ3 l3 => ?_
      refine h2 _ σ3 ?_ ((l1.trans l2).trans l3)
      rw [numL, if_pos (by simpa using e)]
    have hn : ¬ (placeOf c < 0 ∨ b ≤ placeOf c) := by
      simp only [Bool.or_eq_false_iff, decide_eq_false_iff_not] at e
      omega
    have hb64 : Builtin.Int.intBits b ≤ 64 := intBits_le_iff.mpr (Nat.lt_of_lt_of_le (show b.natAbs < 2 ^ 5 by omega) (Nat.pow_le_pow_right (by decide) (by decide)))
    refine seq_let (x := .int (v * b + placeOf c)) (Is.add (Is.mul (p := v) (q := b) (Is.loc rfl nofun) (Is.loc rfl nofun) (mulSmall hb64)) (Is.loc rfl nofun)) nofun fun σ3 l3 => skip_end ?_
    have l13 := (l1.trans l2).trans l3
    refine val_loop hb hb' l _ σ3 _ _ (fun c m => hc c (by simp [m])) (fun v' o4' o5' σ' e l => h1 v' o4' o5' σ' ?_ (l13.trans l)) fun ρ' σ' e l => h2 ρ' σ' ?_ (l13.trans l)
    · rw [numL, if_neg hn]; exact e
    · rw [numL, if_neg hn]; exact e
noncomputable def valTail : AS := (.seq (.asg 3 (.int 0))
    (.seq (.forIn 4 (.m0 .lower (.loc 2)) valBody)
    (.seq (.ret (.ife (.cmp .ne (.loc 2) (.str [])) (.loc 3) (.neg (.int 1))))
    .skip)))
theorem seq_forIn {i : Nat} (k : ewp C e ρ σ (fun v σ₁ => forV v σ₁ fun G xs => forN G (fun x ρ => ρ.set i x) (fun ρ σ q => swp C s ρ σ q E) (fun o ρ₁ σ₁ => match o with | .next => swp C t ρ₁ σ₁ Q E | .ret v => Q (.ret v) ρ₁ σ₁) xs ρ σ₁) E) :
    swp C (.seq (.forIn i e s) t) ρ σ Q E := k
theorem val_tail {t d : List Nat} {b : Int} {K : VQ} (hb : 0 ≤ b) (hb' : b ≤ 16) (hl : d.length ≤ 1000) (hc : ∀ c ∈ d, c < 128) (hn : numB t = (b, d)) {o3 o4 o5 : AV} (h : ∀ σ', Al σ σ' → K (.int (numV t)) σ') :
    swp C valTail [.str t, .int b, .str d, o3, o4, o5] σ (fun o _ σ' => K o.val σ') E := by
  unfold valTail
  refine seq_let Is.int nofun fun σ1 l1 => ?_
  show swp _ _ [.str t, .int b, .str d, .int 0, o4, o5] σ1 _ E
  refine seq_forIn ((Is.lower (Is.loc (x := .str d) rfl nofun) hl hc).runK fun σ2 l2 => ?_)
  have hc' : ∀ c ∈ d.map lo1, c < 128 := by
    intro c m
    obtain ⟨c', m', rfl⟩ := List.mem_map.mp m
    exact lo_lt c' (hc c' m')
  refine ⟨?_, val_loop hb hb' (d.map lo1) 0 σ2 _ _ hc' (fun v' o4' o5' σ3 e l3 => ?_) fun ρ' σ3 e l3 => ?_⟩
  · rw [List.all_eq_true]; exact fun c m => by simpa using hc' c m
  · have hv : numV t = if d = [] then -1 else v' := by unfold numV; simp only [hn, e]
    refine seq_ret (P := fun u _ => u = .int (numV t)) (Is.ife (Is.neS (Is.loc (x := .str d) rfl nofun) Is.str) (fun e => ?_) fun e => ?_) ?_
    · rw [hv, if_neg (by simpa using e)]; exact Is.loc rfl nofun
    · rw [hv, if_pos (by simpa using e)]; exact Is.neg Is.int
    · rintro _ σ4 l4 rfl
      exact h σ4 (((l1.trans l2).trans l3).trans l4)
  · have hv : numV t = -1 := by unfold numV; simp only [hn, e]
    have := h σ3 ((l1.trans l2).trans l3)
    rw [hv] at this
    exact this
theorem value_ok {n : Nat} {t : List Nat} {K : VQ} (hl : t.length ≤ 1000) (hc : ∀ c ∈ t, c < 128) (h : ∀ σ', Al σ σ' → K (.int (numV t)) σ') : cwp theProg (n + 1) 2 [.str t] σ K E := by
  refine defCall (fn := _) rfl rfl (by simp) ?_
  have hd : ∀ k, (t.drop k).length ≤ 1000 := fun k => by rw [List.length_drop]; omega
  have hdc : ∀ k, ∀ c ∈ t.drop k, c < 128 := fun k c m => hc c (List.mem_of_mem_drop m)
  have L0 : ∀ {C : CallT} {σ : AH} {o1 o2 : AV}, Is C (.loc 0) [.str t, o1, o2, .unb, .unb, .unb] σ (.str t) := Is.loc rfl nofun
  refine seq_asg2 Is.int (Is.loc (x := .str t) rfl nofun) fun σ1 l1 => ?_
  show swp _ _ [.str t, .int 10, .str t, .unb, .unb, .unb] σ1 _ E
  refine seq_ite (Is.inTup2 (Is.slcTo (n := 2) L0 Is.int (by omega))) (fun e σ2 l2 => ?_) fun e σ2 l2 => ?_
  · refine seq_asg2 Is.int (Is.slcFrom (n := 2) L0 Is.int (by omega)) fun σ3 l3 => skip_next ?_
    exact val_tail (b := 16) (d := t.drop 2) (by decide) (by decide) (hd 2) (hdc 2) (by unfold numB; rw [if_pos e]) fun σ' l => h σ' (((l1.trans l2).trans l3).trans l)
  refine seq_ite (Is.inTup2 (Is.slcTo (n := 2) L0 Is.int (by omega))) (fun e' σ3 l3 => ?_) fun e' σ3 l3 => ?_
  · refine seq_asg2 Is.int (Is.slcFrom (n := 2) L0 Is.int (by omega)) fun σ4 l4 => skip_next (skip_next ?_)
    exact val_tail (b := 2) (d := t.drop 2) (by decide) (by decide) (hd 2) (hdc 2) (by unfold numB; rw [e, e', if_neg (by decide), if_pos rfl]) fun σ' l => h σ' ((((l1.trans l2).trans l3).trans l4).trans l)
  refine seq_ite (Is.and (Is.eqS (Is.slcTo (n := 1) L0 Is.int (by omega)) Is.str) fun _ => Is.gt (Is.lenS L0 (by omega)) Is.int) (fun e2 σ4 l4 => ?_) fun e2 σ4 l4 => skip_next (skip_next (skip_next ?_))
  · refine seq_asg2 Is.int (Is.slcFrom (n := 1) L0 Is.int (by omega)) fun σ5 l5 => skip_next (skip_next (skip_next ?_))
    have q : t.take 1 = [48] ∧ 1 < t.length := by
      simp only [Bool.and_eq_true, decide_eq_true_eq] at e2
      exact ⟨e2.1, by omega⟩
    exact val_tail (b := 8) (d := t.drop 1) (by decide) (by decide) (hd 1) (hdc 1) (by unfold numB; rw [e, e', if_neg (by decide), if_neg (by decide), if_pos q]) fun σ' l => h σ' (((((l1.trans l2).trans l3).trans l4).trans l5).trans l)
  have q : ¬ (t.take 1 = [48] ∧ 1 < t.length) := by
    intro ⟨q1, q2⟩
    simp only [Bool.and_eq_false_iff, decide_eq_false_iff_not] at e2
    rcases e2 with e2 | e2
    · exact e2 q1
    · omega
  exact val_tail (b := 10) (d := t) (by decide) (by decide) hl hc (by unfold numB; rw [e, e', if_neg (by decide), if_neg (by decide), if_neg q]) fun σ' l => h σ' ((((l1.trans l2).trans l3).trans l4).trans l)

noncomputable def wNEAR : List Nat := [110, 101, 97, 114]
theorem numbered_ok {n : Nat} {v : Int} {t : List Nat} {x1 : AV} {K : VQ} (hx : x1 ≠ .unb) (f : numOk (v, t) = true) (h : ∀ r σ', Al σ σ' → σ' r = some (.piece wNUM t (.int v)) → K (.ref r) σ') : cwp theProg (n + 2) 5 [.str t, x1] σ K E := by
  simp only [numOk, Bool.and_eq_true, decide_eq_true_eq, Bool.not_eq_true'] at f
  obtain ⟨⟨⟨⟨⟨⟨⟨f1, f2⟩, f3⟩, f4⟩, f5⟩, f6⟩, f7⟩, f8⟩ := f
  refine defCall (fn := _) rfl rfl (by simpa using hx) ?_
  show swp _ body_numbered [.str t, x1, .unb] σ _ E
  have L0 : ∀ {C : CallT} {σ : AH} {o : AV}, Is C (.loc 0) [.str t, x1, o] σ (.str t) := Is.loc rfl nofun
  refine seq_ite (Is.and (Is.inTup2 (Is.slcLast L0 (by omega))) fun _ => Is.and (Is.isdigit (Is.slcInit L0 (by omega))) fun _ => Is.not (Is.startswith L0 Is.str)) (fun e σ1 l1 => ?_) fun e σ1 l1 => skip_next ?_
  · have e' : nearS t = true := e
    rw [f1] at e'; cases e'
  have hc : ∀ c ∈ t, c < 128 := fun c m => by simpa using List.all_eq_true.mp f8 c m
  refine seq_asgE (call1_ok L0 fun σ2 l2 => value_ok (by omega) hc fun σ3 l3 => ⟨nofun, ?_⟩)
  rw [f2]
  show swp _ _ [.str t, x1, .int v] σ3 _ E
  refine seq_ite (Is.lt (Is.loc (x := .int v) rfl nofun) Is.int) (fun e σ4 l4 => absurd (of_decide_eq_true e) (by omega)) fun e σ4 l4 => skip_next ?_
  refine seq_ret (Ev.mkPiece Is.str L0 (Is.loc (x := .int v) rfl nofun)) ?_
  rintro _ σ5 l5 ⟨r, rfl, hr⟩
  exact h r σ5 ((((l1.trans l2).trans l3).trans l4).trans l5) hr
end
end Nm
end

section
open PySem PySem.W PyProof.Rows
set_option tactic.hygienic false
set_option maxRecDepth 100000
set_option maxHeartbeats 2000000
set_option linter.unusedVariables false
set_option linter.unusedSimpArgs false
namespace Nm
theorem Kp.fresh1 {f : Nat} {σ σ1 σ' : AH} (l : Al σ σ1) (k : Kp [f] σ1 σ') (hf : σ f = none) : Al σ σ' := fun c o _ e => k c o (by
  intro m
  simp only [List.mem_cons, List.not_mem_nil, or_false] at m
  subst m; rw [hf] at e; cases e) (l.get e)
section
variable {C CN : CallT} {a b c d e : AE} {ρ : List AV} {σ : AH} {E : AH → Prop} {x y z u : AV} {Q : SQ} {s s' t : AS} {K : VQ}
theorem defCallN {f : Nat} {fn : AFun} {n : Nat} {args : List AV} (hs : nset f = true) (hf : theProg f = some fn) (hl : args.length = fn.np) (hu : ∀ v ∈ args, v ≠ .unb)
    (h : swpN (cwp theProg n) (cwpN theProg n) fn.body (args ++ List.replicate (fn.vars.length - fn.np) .unb) σ (fun o _ σ' => K o.val σ') E) : cwpN theProg (n + 1) f args σ K E := by
  unfold cwpN
  rw [hs]
  exact ⟨fn, hf, hl, hu, h⟩
theorem callN {f : Nat} {n : Nat} {args : List AV} (hs : nset f = false) (h : cwp theProg (n + 1) f args σ K E) : cwpN theProg (n + 1) f args σ K E := by
  unfold cwpN
  rw [hs]
  exact h
noncomputable def aftN (C CN : CallT) (t : AS) (Q : SQ) (E : AH → Prop) : SQ := fun o ρ₁ σ₁ => match o with | .next => swpN C CN t ρ₁ σ₁ Q E | .ret v => Q (.ret v) ρ₁ σ₁
theorem iteN {g : Bool} (he : ∀ ρ σ Q E, ewpN C CN c ρ σ Q E = ewp C c ρ σ Q E) (hc : Is C c ρ σ (.bool g))
    (ht : g = true → ∀ σ', Al σ σ' → swpN C CN s ρ σ' (aftN C CN t Q E) E)
    (hf : g = false → ∀ σ', Al σ σ' → swpN C CN s' ρ σ' (aftN C CN t Q E) E) : swpN C CN (.seq (.ite c s s') t) ρ σ Q E := by
  show ewpN C CN c ρ σ (fun v σ₁ => truV v fun b => if b then _ else _) E
  rw [he]
  refine hc.runK fun σ' l => ?_
  cases g with
  | true => exact ht rfl σ' l
  | false => exact hf rfl σ' l
theorem skipN (h : swpN C CN t ρ σ Q E) : swpN C CN .skip ρ σ (aftN C CN t Q E) E := h
theorem skipNE (h : Q .next ρ σ) : swpN C CN .skip ρ σ Q E := h
theorem asgN {i : Nat} (he : ∀ ρ σ Q E, ewpN C CN e ρ σ Q E = ewp C e ρ σ Q E) (k : ewp C e ρ σ (fun v σ₁ => v ≠ .unb ∧ swpN C CN t (ρ.set i v) σ₁ Q E) E) : swpN C CN (.seq (.asg i e) t) ρ σ Q E := by
  show ewpN C CN e ρ σ _ E
  rw [he]; exact k
theorem letN {i : Nat} (he : ∀ ρ σ Q E, ewpN C CN e ρ σ Q E = ewp C e ρ σ Q E) (hc : Is C e ρ σ x) (hx : x ≠ .unb) (h : ∀ σ', Al σ σ' → swpN C CN t (ρ.set i x) σ' Q E) : swpN C CN (.seq (.asg i e) t) ρ σ Q E :=
  asgN he (hc.runK fun σ' l => ⟨hx, h σ' l⟩)
theorem exprN (he : ∀ ρ σ Q E, ewpN C CN e ρ σ Q E = ewp C e ρ σ Q E) (k : ewp C e ρ σ (fun _ σ₁ => swpN C CN t ρ σ₁ Q E) E) : swpN C CN (.seq (.expr e) t) ρ σ Q E := by
  show ewpN C CN e ρ σ _ E
  rw [he]; exact k
theorem retN (he : ∀ ρ σ Q E, ewpN C CN e ρ σ Q E = ewp C e ρ σ Q E) (k : ewp C e ρ σ (fun v σ₁ => Q (.ret v) ρ σ₁) E) : swpN C CN (.seq (.ret e) t) ρ σ Q E := by
  show ewpN C CN e ρ σ _ E
  rw [he]; exact k
theorem asg2N {i j : Nat} (he : ∀ ρ σ Q E, ewpN C CN (.tup2 a b) ρ σ Q E = ewp C (.tup2 a b) ρ σ Q E) (hc : Is C a ρ σ x) (hd : Is C b ρ σ y) (h : ∀ σ', Al σ σ' → swpN C CN t ((ρ.set i x).set j y) σ' Q E) : swpN C CN (.seq (.asg2 i j (.tup2 a b)) t) ρ σ Q E := by
  show ewpN C CN (.tup2 a b) ρ σ _ E
  rw [he]
  refine tup2E (hc.runK fun σ1 l1 => Is.runK (hd.at l1) fun σ2 l2 => new fun c σ3 _ hc l3 => ⟨c, x, y, rfl, hc, h σ3 ((l1.trans l2).trans l3)⟩)
theorem appE {j t : Nat} {xs : List AV} (hj : ρ.getD j .unb = .ref t) (h : σ t = some (.list xs)) (k : ewp C e ρ σ (fun v σ₂ => m1V .lapp (.ref t) v σ₂ K) E) : ewp C (.m1 .append (.loc j) e) ρ σ K E := by
  show ρ.getD j .unb ≠ .unb ∧ ∃ q, m1K .append (ρ.getD j .unb) σ q ∧ ewp C e ρ σ (fun y σ₂ => m1V q (ρ.getD j .unb) y σ₂ K) E
  rw [hj]
  exact ⟨nofun, .lapp, ⟨rfl, t, xs, rfl, h⟩, k⟩
theorem Is.ord {c : Nat} (h : Is C a ρ σ (.str [c])) : Is C (.b1 .ord a) ρ σ (.int (c : Nat)) := h.ofB1 fun _ _ _ k => ⟨c, rfl, k⟩
theorem Is.bytes {t : Nat} {bs : List Nat} (h : Is C a ρ σ (.ref t)) (g : σ t = some (.barr bs)) (hl : bs.length ≤ 1000) : Is C (.b1 .bytes a) ρ σ (.byt bs) := h.ofB1 fun _ _ l k => ⟨t, bs, rfl, l.get g, hl, k⟩
theorem Is.lenB {s : List Nat} (h : Is C a ρ σ (.byt s)) (hb : s.length ≤ 1000000) : Is C (.b1 .len a) ρ σ (.int s.length) := h.ofB1 fun _ _ _ k => ⟨_, rfl, bigOf hb, k⟩
theorem Is.idxB {s : List Nat} {i : Int} {c : Nat} (h : Is C a ρ σ (.byt s)) (h' : Is C b ρ σ (.int i)) (h0 : 0 ≤ i) (hl : s.length ≤ 1000) (hi : s[i.toNat]? = some c) : Is C (.idx a b) ρ σ (.int (c : Nat)) := h.ofIdx h' fun _ _ _ k => ⟨i, c, rfl, h0, hl, hi, k⟩

theorem quoted_ok {n p c : Nat} {row : List Nat} {line : Int} (hlen : row.length ≤ 100000) (c1 : c < 128) (c2 : c ≠ 92) (c3 : c ≠ 39) (h0 : row[p]? = some 39) (h1 : row[p + 1]? = some c) (h2 : row[p + 2]? = some 39)
    (h : ∀ t σ', Al σ σ' → σ' t = some (.tup [.byt [c], .int ((p + 3 : Nat) : Int)]) → K (.ref t) σ') : cwpN theProg (n + 1) 3 [.str row, .int ((p + 1 : Nat) : Int), .int line] σ K E := by
  have b2 : p + 2 < row.length := (List.getElem?_eq_some_iff.mp h2).1
  refine defCallN (fn := _) rfl rfl rfl (by simp) ?_
  show swpN _ _ body_quoted [.str row, .int ((p + 1 : Nat) : Int), .int line, .unb, .unb, .unb] _ _ _
  show ewp (cwp theProg n) (.idx (.loc 0) (.bin .sub (.loc 1) (.int 1))) [.str row, .int ((p + 1 : Nat) : Int), .int line, .unb, .unb, .unb] σ (fun x σ₁ => newO σ₁ (.barr []) (fun y σ₂ => newO σ₂ (.tup [x, y]) _)) E
  refine (Is.idxS (i := (p : Nat)) (c := 39) (Is.loc (x := .str row) rfl nofun) (Is.cong (Is.sub (Is.loc (x := .int ((p + 1 : Nat) : Int)) rfl nofun) Is.int) (by simp)) (by omega) (by omega) (by simpa using h0)).runK fun σ1 l1 => ?_
  refine new fun f σ2 hf1 hf l2 => new fun t σ3 _ ht l3 => ⟨t, _, _, rfl, ht, ?_⟩
  have fr : σ f = none := by
    cases e : σ f with
    | none => rfl
    | some o => have := l1.get e; rw [hf1] at this; cases this
  have l13 := (l1.trans l2).trans l3
  show swpN _ _ _ [.str row, .int ((p + 1 : Nat) : Int), .int line, .str [39], .ref f, .unb] σ3 _ E
  have cond : ∀ {σ : AH} {j q : Nat} {o5 : AV}, row[j]? = some q → Is (cwp theProg n) (.and (.cmp .lt (.loc 1) (.b1 .len (.loc 0))) (.cmp .ne (.idx (.loc 0) (.loc 1)) (.loc 3))) [.str row, .int (j : Nat), .int line, .str [39], .ref f, o5] σ (.bool (!decide (q = 39))) := fun {σ j q o5} hq => by
    have hj := (List.getElem?_eq_some_iff.mp hq).1
    refine Is.cong (Is.and (Is.lt (Is.loc (x := .int (j : Nat)) rfl nofun) (Is.lenS (p := row) (Is.loc rfl nofun) (by omega))) fun _ => Is.neS (Is.idxS (i := (j : Nat)) (c := q) (Is.loc (x := .str row) rfl nofun) (Is.loc (x := .int (j : Nat)) rfl nofun) (by omega) (by omega) (by simpa using hq)) (Is.loc (x := .str [39]) rfl nofun)) ?_
    congr 1
    rw [decide_eq_true (by omega : (j : Int) < row.length)]
    simp
  refine ⟨2, (cond h1).runK fun σ4 l4 => ?_⟩
  show (if (!decide (c = 39)) = true then _ else _)
  rw [if_pos (by simp [c3])]
  refine iteN (fun _ _ _ _ => rfl) (Is.eqS (Is.idxS (i := ((p + 1 : Nat) : Int)) (c := c) (Is.loc (x := .str row) rfl nofun) (Is.loc (x := .int ((p + 1 : Nat) : Int)) rfl nofun) (by omega) (by omega) (by simpa using h1)) Is.str) (fun e σ5 l5 => absurd (of_decide_eq_true e) (by simpa using c2)) fun e σ5 l5 => ?_
  refine asg2N (fun _ _ _ _ => rfl) (x := .int (c : Nat)) (y := .int ((p + 2 : Nat) : Int)) (Is.cong (Is.band (Is.ord (c := c) (Is.idxS (i := ((p + 1 : Nat) : Int)) (c := c) (Is.loc (x := .str row) rfl nofun) (Is.loc (x := .int ((p + 1 : Nat) : Int)) rfl nofun) (by omega) (by omega) (by simpa using h1))) Is.int) (by rw [and_255 c c1])) (Is.cong (Is.add (Is.loc (x := .int ((p + 1 : Nat) : Int)) rfl nofun) Is.int) (by congr 1)) fun σ6 l6 => skipN ?_
  show swpN _ _ _ [.str row, .int ((p + 2 : Nat) : Int), .int line, .str [39], .ref f, .int (c : Nat)] σ6 _ E
  have hf6 := (((l3.trans l4).trans l5).trans l6).get hf
  refine Or.inl ⟨f, [], c, rfl, hf6, rfl, by omega, by omega, by simp, ?_⟩
  show swpN _ _ .skip _ _ _ _
  refine skipNE ?_
  have k67 : Kp [f] σ6 (σ6.set f (.barr [c])) := Kp.set _ (by first | exact .head _ | exact .tail _ (.head _) | simp)
  have hf7 : (σ6.set f (.barr [c])) f = some (.barr [c]) := AH.set_same _ _ _
  show whileN _ _ _ 1 [.str row, .int ((p + 2 : Nat) : Int), .int line, .str [39], .ref f, .int (c : Nat)] (σ6.set f (.barr [c]))
  generalize σ6.set f (.barr [c]) = σ7 at k67 hf7
  have l07 : Al σ σ7 := Kp.fresh1 (((l13.trans l4).trans l5).trans l6) k67 fr
  refine (cond h2).runK fun σ8 l8 => ?_
  show swpN (cwp theProg n) (cwpN theProg n) (.seq (.ite (.cmp .ge (.loc 1) (.b1 .len (.loc 0))) (.seq (.fault 2) .skip) .skip) (.seq (.ret (.tup2 (.b1 .bytes (.loc 4)) (.bin .add (.loc 1) (.int 1)))) .skip)) [.str row, .int ((p + 2 : Nat) : Int), .int line, .str [39], .ref f, .int (c : Nat)] σ8 _ E
  refine iteN (fun _ _ _ _ => rfl) (Is.ge (Is.loc (x := .int ((p + 2 : Nat) : Int)) rfl nofun) (Is.lenS (p := row) (Is.loc rfl nofun) (by omega))) (fun e σ9 l9 => absurd (of_decide_eq_true e) (by omega)) fun e σ9 l9 => skipN ?_
  refine retN (fun _ _ _ _ => rfl) (tup2E ?_)
  refine (Is.bytes (Is.loc (x := .ref f) rfl nofun) ((l8.trans l9).get hf7) (by simp)).runK fun σ10 l10 => ?_
  refine (Is.add (Is.loc (x := .int ((p + 2 : Nat) : Int)) rfl nofun) Is.int).runK fun σ11 l11 => new fun t' σ12 _ ht' l12 => ?_
  exact h t' σ12 (((((l07.trans l8).trans l9).trans l10).trans l11).trans l12) ht'
end
end Nm
end

section
open PySem PySem.W PyProof.Rows
set_option tactic.hygienic false
set_option maxRecDepth 100000
set_option maxHeartbeats 2000000
set_option linter.unusedVariables false
set_option linter.unusedSimpArgs false
namespace Nm
noncomputable def wSIGN : List Nat := [115, 105, 103, 110]
/-- a piece for a word -/
noncomputable def PAt (σ : AH) (pv : AV) : Tk → Prop
  | .op t => ∃ q, pv = .ref q ∧ σ q = some (.piece wSIGN t (.int 0))
  | .val s => ∃ q, pv = .ref q ∧ s.m = [] ∧ ((∃ t, σ q = some (.piece wNUM t (.int s.n)) ∧ s.p = []) ∨ (σ q = some (.piece wNAME s.p (.int 0)) ∧ s.n = 0))
inductive Pieces (σ : AH) : List AV → List Tk → Prop where
  | nil : Pieces σ [] []
  | cons {pv : AV} {t : Tk} {ps : List AV} {ks : List Tk} : PAt σ pv t → Pieces σ ps ks → Pieces σ (pv :: ps) (t :: ks)
theorem PAt.mono {l : List Nat} {σ σ' : AH} {pv : AV} {t : Tk} (h : PAt σ pv t) (k : Kp l σ σ') (n : NotLists l σ) : PAt σ' pv t := by
  cases t with
  | op t => obtain ⟨q, h1, h2⟩ := h; exact ⟨q, h1, k _ _ (n.no (by nofun) h2) h2⟩
  | val s =>
    obtain ⟨q, h1, h2, h3⟩ := h
    refine ⟨q, h1, h2, ?_⟩
    rcases h3 with ⟨t, h3, h4⟩ | ⟨h3, h4⟩
    · exact .inl ⟨t, k _ _ (n.no (by nofun) h3) h3, h4⟩
    · exact .inr ⟨k _ _ (n.no (by nofun) h3) h3, h4⟩
theorem Pieces.mono {l : List Nat} {σ σ' : AH} {ps : List AV} {ks : List Tk} (h : Pieces σ ps ks) (k : Kp l σ σ') (n : NotLists l σ) : Pieces σ' ps ks := by
  induction h with
  | nil => exact .nil
  | cons a _ ih => exact .cons (a.mono k n) ih
theorem Pieces.app {σ : AH} {ps qs : List AV} {ks js : List Tk} (h : Pieces σ ps ks) (h' : Pieces σ qs js) : Pieces σ (ps ++ qs) (ks ++ js) := by
  induction h with
  | nil => exact h'
  | cons a _ ih => exact .cons a ih
theorem Pieces.one {σ : AH} {p : AV} {k : Tk} (h : PAt σ p k) : Pieces σ [p] [k] := .cons h .nil
theorem Pieces.len {σ : AH} {ps : List AV} {ks : List Tk} (h : Pieces σ ps ks) : ps.length = ks.length := by
  induction h with
  | nil => rfl
  | cons _ _ ih => simp [ih]
theorem one_list {f : Nat} {σ : AH} {xs : List AV} (h : σ f = some (.list xs)) : NotLists [f] σ := by
  intro a m
  simp only [List.mem_cons, List.not_mem_nil, or_false] at m
  subst m
  exact ⟨_, h⟩

/-! what holds of the signs -/
noncomputable def mkS : List Nat := [43, 45, 42, 47, 37, 38, 124, 94, 126, 40, 41, 44, 58, 59, 61, 64]
theorem dig_facts : ∀ c ∈ sDIGITS, subIn [c] [32, 9, 13] = false ∧ subIn [c] sDIGITS = true ∧ c ≠ 35 ∧ c < 128 := by simp only [subIn1]; decide +kernel
theorem beg_facts : ∀ c ∈ sBEGINS, subIn [c] [32, 9, 13] = false ∧ subIn [c] sDIGITS = false ∧ subIn [c] sBEGINS = true ∧ c ≠ 35 ∧ c < 128 := by simp only [subIn1]; decide +kernel
theorem quo_facts : subIn [39] [32, 9, 13] = false ∧ subIn [39] sDIGITS = false ∧ subIn [39] sBEGINS = false ∧ subIn [39] [34, 39] = true := by simp only [subIn1]; decide +kernel
theorem bla_facts : subIn [32] [32, 9, 13] = true := by simp only [subIn1]; decide +kernel
noncomputable def sgnT (t : List Nat) : Bool := match t with
  | [] => false
  | c :: r => !subIn [c] [32, 9, 13] && !subIn [c] sDIGITS && !subIn [c] sBEGINS && !subIn [c] [34, 39] && decide (c ≠ 35) && decide (c < 128) &&
    (match r with
    | [] => subIn [c] mkS && decide (c ≠ 60) && decide (c ≠ 62)
    | _ => decide (t = [60, 60]) || decide (t = [62, 62]))
theorem sgn_facts : lSIGNS.all sgnT = true := by decide +kernel

section
variable {C CN : CallT} {a b c d e : AE} {ρ : List AV} {σ : AH} {E : AH → Prop} {x y z u : AV} {Q : SQ} {s s' t : AS} {K : VQ}
theorem asgC2N {f i : Nat} (h1 : Is C a ρ σ x) (h2 : Is C b ρ σ y) (k : ∀ σ', Al σ σ' → CN f [x, y] σ' (fun v σ₁ => v ≠ .unb ∧ swpN C CN t (ρ.set i v) σ₁ Q E) E) : swpN C CN (.seq (.asg i (.call2 f a b)) t) ρ σ Q E :=
  show ewp C a ρ σ (fun x σ₁ => ewp C b ρ σ₁ (fun y σ₂ => CN f [x, y] σ₂ _ E) E) E from h1.runK fun σ1 l1 => Is.runK (h2.at l1) fun σ2 l2 => k σ2 (l1.trans l2)
theorem asg2C3N {f i j : Nat} (h1 : Is C a ρ σ x) (h2 : Is C b ρ σ y) (h3 : Is C c ρ σ z) (k : ∀ σ', Al σ σ' → CN f [x, y, z] σ' (fun v σ₁ => ∃ a x y, v = .ref a ∧ σ₁ a = some (.tup [x, y]) ∧ swpN C CN t ((ρ.set i x).set j y) σ₁ Q E) E) : swpN C CN (.seq (.asg2 i j (.call3 f a b c)) t) ρ σ Q E :=
  show ewp C a ρ σ (fun x σ₁ => ewp C b ρ σ₁ (fun y σ₂ => ewp C c ρ σ₂ (fun z σ₃ => CN f [x, y, z] σ₃ _ E) E) E) E from h1.runK fun σ1 l1 => Is.runK (h2.at l1) fun σ2 l2 => Is.runK (h3.at (l1.trans l2)) fun σ3 l3 => k σ3 ((l1.trans l2).trans l3)

noncomputable def pieceBody : AS := (.seq (.asg 4 (.idx (.loc 0) (.loc 3)))
        (.seq (.ite (.cmp .isin (.loc 4) (.str [32, 9, 13]))
          (.seq (.asg 3 (.bin .add (.loc 3) (.int 1)))
            .skip)
          (.seq (.ite (.cmp .isin (.loc 4) (.gv 1))
              (.seq (.asg 5 (.call2 1 (.loc 0) (.loc 3)))
                (.seq (.expr (.m1 .append (.loc 2) (.call2 5 (.slc (.loc 0) (.loc 3) (.loc 5)) (.loc 1))))
                (.seq (.asg 3 (.loc 5))
                .skip)))
              (.seq (.ite (.or (.cmp .isin (.loc 4) (.gv 0)) (.and (.cmp .eq (.loc 4) (.str [37])) (.cmp .isin (.slc (.loc 0) (.loc 3) (.call2 1 (.loc 0) (.bin .add (.loc 3) (.int 1)))) (.gv 3))))
                  (.seq (.asg 5 (.call2 1 (.loc 0) (.bin .add (.loc 3) (.int 1))))
                    (.seq (.expr (.m1 .append (.loc 2) (.mk 1 (.str [110, 97, 109, 101]) (.slc (.loc 0) (.loc 3) (.loc 5)) (.int 0))))
                    (.seq (.asg 3 (.loc 5))
                    .skip)))
                  (.seq (.ite (.cmp .isin (.loc 4) (.str [34, 39]))
                      (.seq (.asg2 6 3 (.call3 3 (.loc 0) (.bin .add (.loc 3) (.int 1)) (.loc 1)))
                        (.seq (.ite (.and (.cmp .eq (.loc 4) (.str [39])) (.cmp .ne (.b1 .len (.loc 6)) (.int 1)))
                          (.seq (.fault 1)
                            .skip)
                          .skip)
                        (.seq (.expr (.m1 .append (.loc 2) (.ife (.cmp .eq (.loc 4) (.str [34])) (.mk 1 (.str [115, 116, 114, 105, 110, 103]) (.str []) (.loc 6)) (.mk 1 (.str [110, 117, 109, 98, 101, 114]) (.str []) (.idx (.loc 6) (.int 0))))))
                        .skip)))
                      (.seq (.ite (.cmp .isin (.slc (.loc 0) (.loc 3) (.bin .add (.loc 3) (.int 2))) (.tup2 (.str [60, 60]) (.str [62, 62])))
                          (.seq (.expr (.m1 .append (.loc 2) (.mk 1 (.str [115, 105, 103, 110]) (.slc (.loc 0) (.loc 3) (.bin .add (.loc 3) (.int 2))) (.int 0))))
                            (.seq (.asg 3 (.bin .add (.loc 3) (.int 2)))
                            .skip))
                          (.seq (.ite (.cmp .isin (.loc 4) (.str [43, 45, 42, 47, 37, 38, 124, 94, 126, 40, 41, 44, 58, 59, 61, 64]))
                              (.seq (.expr (.m1 .append (.loc 2) (.mk 1 (.str [115, 105, 103, 110]) (.loc 4) (.int 0))))
                                (.seq (.asg 3 (.bin .add (.loc 3) (.int 1)))
                                .skip))
                              (.seq (.fault 1)
                                .skip))
                            .skip))
                        .skip))
                    .skip))
                .skip))
            .skip))
        .skip))
theorem drop_pre {row pre r : List Nat} (h : row = pre ++ r) : row.drop pre.length = r := by rw [h]; simp
theorem at_pre {row pre r : List Nat} {c : Nat} (h : row = pre ++ c :: r) : row[pre.length]? = some c := by rw [h]; simp
/-- a piece is put to the end -/
theorem pushed {f r : Nat} {σ0 σ : AH} {ps : List AV} {k : Tk} (l : Al σ0 σ) (h : σ f = some (.list ps)) (hp : PAt σ (.ref r) k) :
    Kp [f] σ0 (σ.set f (.list (ps ++ [.ref r]))) ∧ (σ.set f (.list (ps ++ [.ref r]))) f = some (.list (ps ++ [.ref r])) ∧ Pieces (σ.set f (.list (ps ++ [.ref r]))) [.ref r] [k] :=
  ⟨l.of.trans (Kp.set _ (by first | exact .head _ | exact .tail _ (.head _) | simp)), AH.set_same _ _ _, .one (hp.mono (l := [f]) (Kp.set _ (by first | exact .head _ | exact .tail _ (.head _) | simp)) (one_list h))⟩
theorem step_piece {m f : Nat} {row pre : List Nat} {line : Int} {lx : Lx} {xs : List Lx} {ps : List AV} {R : SQ} {o4 o5 o6 : AV} (hrow : row = pre ++ (lx.txt ++ txtL xs)) (fit : Fit (lx :: xs) = true) (h128 : ∀ c ∈ row, c < 128) (hlen : row.length ≤ 1000) (hps : ps.length ≤ 100000)
    (hP : σ aPARTS = some (.tup (lPARTS2.map .str))) (hf : σ f = some (.list ps))
    (hR : ∀ σ' o4' o5' o6' qs, Kp [f] σ σ' → σ' f = some (.list (ps ++ qs)) → Pieces σ' qs lx.tok → R .next [.str row, .int line, .ref f, .int ((pre.length + lx.txt.length : Nat) : Int), o4', o5', o6'] σ') :
    swpN (cwp theProg (m + 2)) (cwpN theProg (m + 2)) pieceBody [.str row, .int line, .ref f, .int (pre.length : Nat), o4, o5, o6] σ R E := by
  obtain ⟨fit', good, _⟩ := fit_tail fit
  have hll : pre.length + (lx.txt.length + (txtL xs).length) = row.length := by rw [hrow]; simp
  have hd := drop_pre hrow
  generalize hp : pre.length = p at *
  -- the first sign
  have start : ∀ {c : Nat}, row[p]? = some c → (∀ σ', Al σ σ' → swpN (cwp theProg (m + 2)) (cwpN theProg (m + 2)) _ [.str row, .int line, .ref f, .int (p : Nat), .str [c], o5, o6] σ' R E) → swpN (cwp theProg (m + 2)) (cwpN theProg (m + 2)) pieceBody [.str row, .int line, .ref f, .int (p : Nat), o4, o5, o6] σ R E := fun {c} hc k =>
    letN (fun _ _ _ _ => rfl) (Is.idxS (i := (p : Nat)) (c := c) (Is.loc (x := .str row) rfl nofun) (Is.loc (x := .int (p : Nat)) rfl nofun) (by omega) (by have := (List.getElem?_eq_some_iff.mp hc).1; omega) (by simpa using hc)) nofun k
  cases lx with
  | blank =>
    have hc : row[p]? = some 32 := by rw [← hp]; exact at_pre hrow
    refine start hc fun σ1 l1 => ?_
    refine iteN (fun _ _ _ _ => rfl) (Is.inStr (Is.loc (x := .str [32]) rfl nofun) Is.str) (fun e σ2 l2 => ?_) fun e σ2 l2 => absurd e (by rw [bla_facts]; decide)
    refine letN (fun _ _ _ _ => rfl) (x := .int ((p + 1 : Nat) : Int)) (Is.cong (Is.add (Is.loc (x := .int (p : Nat)) rfl nofun) Is.int) (by simp)) nofun fun σ3 l3 => skipN (skipNE ?_)
    have l13 := (l1.trans l2).trans l3
    exact hR σ3 _ _ _ [] l13.of (by rw [List.append_nil]; exact l13.get hf) .nil
  | num v t =>
    have g := num_facts good
    have g' := g
    simp only [numOk, Bool.and_eq_true, decide_eq_true_eq] at g'
    obtain ⟨⟨⟨⟨⟨⟨⟨f1, f2⟩, f3⟩, f4⟩, f5⟩, f6⟩, f7⟩, f8⟩ := g'
    have hw := run_word fit rfl
    rw [txt_cons] at hw
    simp only [Lx.txt] at hll hd hrow hw hR
    cases t with
    | nil => cases f4
    | cons c t =>
      have hcd : c ∈ sDIGITS := by simpa [headIn] using f4
      obtain ⟨q1, q2, q3, q4⟩ := dig_facts c hcd
      have hc : row[p]? = some c := by rw [← hp]; exact at_pre hrow
      refine start hc fun σ1 l1 => ?_
      refine iteN (fun _ _ _ _ => rfl) (Is.inStr (Is.loc (x := .str [c]) rfl nofun) Is.str) (fun e σ2 l2 => absurd e (by rw [q1]; decide)) fun e σ2 l2 => ?_
      refine iteN (fun _ _ _ _ => rfl) (Is.inStr (Is.loc (x := .str [c]) rfl nofun) (Is.gv (g := 1))) (fun e σ3 l3 => ?_) fun e σ3 l3 => absurd e (by rw [q2]; decide)
      refine asgC2N (Is.loc (x := .str row) rfl nofun) (Is.loc (x := .int (p : Nat)) rfl nofun) fun σ4 l4 => callN rfl (end_ok h128 (by omega) (by omega) fun σ5 l5 => ⟨nofun, ?_⟩)
      rw [hd, hw]
      have l15 := (((l1.trans l2).trans l3).trans l4).trans l5
      show swpN _ _ _ [.str row, .int line, .ref f, .int (p : Nat), .str [c], .int ((p + (c :: t).length : Nat) : Int), o6] σ5 _ E
      refine exprN (fun _ _ _ _ => rfl) (appE rfl (l15.get hf) (call2_ok (x := .str (c :: t)) (Is.cong (Is.slcBoth (m := p) (n := p + (c :: t).length) (Is.loc (x := .str row) rfl nofun) (Is.loc (x := .int (p : Nat)) rfl nofun) (Is.loc (x := .int ((p + (c :: t).length : Nat) : Int)) rfl nofun) (by omega) (by omega)) (by rw [hd]; congr 1; simp)) (Is.loc (x := .int line) rfl nofun) fun σ6 l6 => numbered_ok nofun g fun r σ7 l7 hr => ?_))
      have l17 := (l15.trans l6).trans l7
      refine app_ok (l17.get hf) (by omega) nofun ?_
      obtain ⟨k1, k2, k3⟩ := pushed (k := .val ⟨[], [], v⟩) l17 (l17.get hf) ⟨r, rfl, rfl, .inl ⟨_, hr, rfl⟩⟩
      refine letN (fun _ _ _ _ => rfl) (Is.loc (x := .int ((p + (c :: t).length : Nat) : Int)) rfl nofun) nofun fun σ8 l8 => skipN (skipN (skipNE ?_))
      exact hR σ8 _ _ _ [.ref r] (k1.trans l8.of) (l8.get k2) (k3.mono (l := []) l8 (by intro a m; cases m))
  | quo c =>
    have gc : 97 ≤ c ∧ c < 123 := by simpa [Lx.good] using good
    obtain ⟨q1, q2, q3, q4⟩ := quo_facts
    simp only [Lx.txt] at hll hd hrow hR
    have hc : row[p]? = some 39 := by rw [← hp]; exact at_pre hrow
    have hc1 : row[p + 1]? = some c := by rw [hrow, ← hp]; simp
    have hc2 : row[p + 2]? = some 39 := by rw [hrow, ← hp]; simp
    refine start hc fun σ1 l1 => ?_
    refine iteN (fun _ _ _ _ => rfl) (Is.inStr (Is.loc (x := .str [39]) rfl nofun) Is.str) (fun e σ2 l2 => absurd e (by rw [q1]; decide)) fun e σ2 l2 => ?_
    refine iteN (fun _ _ _ _ => rfl) (Is.inStr (Is.loc (x := .str [39]) rfl nofun) (Is.gv (g := 1))) (fun e σ3 l3 => absurd e (by rw [q2]; decide)) fun e σ3 l3 => ?_
    refine iteN (fun _ _ _ _ => rfl) (Is.or (q := false) (Is.inStr (Is.loc (x := .str [39]) rfl nofun) (Is.gv (g := 0))) fun _ => Is.cong (Is.and (q := false) (Is.eqS (Is.loc (x := .str [39]) rfl nofun) Is.str) fun e => absurd e (by decide)) (by simp)) (fun e σ4 l4 => absurd e (by rw [q3]; decide)) fun e σ4 l4 => ?_
    refine iteN (fun _ _ _ _ => rfl) (Is.inStr (Is.loc (x := .str [39]) rfl nofun) Is.str) (fun e σ5 l5 => ?_) fun e σ5 l5 => absurd e (by rw [q4]; decide)
    refine asg2C3N (Is.loc (x := .str row) rfl nofun) (y := .int ((p + 1 : Nat) : Int)) (Is.cong (Is.add (Is.loc (x := .int (p : Nat)) rfl nofun) Is.int) (by simp)) (Is.loc (x := .int line) rfl nofun) fun σ6 l6 => quoted_ok (by omega) (by omega) (by omega) (by omega) hc hc1 hc2 fun t σ7 l7 ht => ⟨t, _, _, rfl, ht, ?_⟩
    have l17 := (((((l1.trans l2).trans l3).trans l4).trans l5).trans l6).trans l7
    show swpN _ _ _ [.str row, .int line, .ref f, .int ((p + 3 : Nat) : Int), .str [39], o5, .byt [c]] σ7 _ E
    refine iteN (fun _ _ _ _ => rfl) (Is.and (Is.eqS (Is.loc (x := .str [39]) rfl nofun) Is.str) fun _ => Is.neI (Is.lenB (s := [c]) (Is.loc rfl nofun) (by simp)) Is.int) (fun e σ8 l8 => absurd e (by simp)) fun e σ8 l8 => skipN ?_
    have l18 := l17.trans l8
    refine exprN (fun _ _ _ _ => rfl) (appE rfl (l18.get hf) ((Is.ife (P := fun u σ' => ∃ r, u = .ref r ∧ σ' r = some (.piece wNUM [] (.int (c : Nat)))) (Is.eqS (Is.loc (x := .str [39]) rfl nofun) Is.str) (fun e => absurd e (by decide)) fun e => Ev.mkPiece Is.str Is.str (Is.idxB (s := [c]) (i := 0) (Is.loc rfl nofun) Is.int (by decide) (by simp) rfl)).run ?_))
    rintro _ σ9 l9 ⟨r, rfl, hr⟩
    have l19 := l18.trans l9
    refine app_ok (l19.get hf) (by omega) nofun ?_
    obtain ⟨k1, k2, k3⟩ := pushed (k := .val ⟨[], [], c⟩) l19 (l19.get hf) ⟨r, rfl, rfl, .inl ⟨_, hr, rfl⟩⟩
    refine skipN (skipN (skipN (skipN (skipNE ?_))))
    exact hR _ _ _ _ [.ref r] k1 k2 k3
  | name s =>
    have g' := name_facts good
    simp only [nameOk, Bool.and_eq_true, decide_eq_true_eq] at g'
    obtain ⟨⟨⟨f1, f2⟩, f3⟩, f4⟩ := g'
    have hw := run_word fit rfl
    rw [txt_cons] at hw
    simp only [Lx.txt] at hll hd hrow hw hR
    cases s with
    | nil => cases f2
    | cons c t =>
      have hcd : c ∈ sBEGINS := by simpa [headIn] using f2
      obtain ⟨q1, q2, q3, q4, q5⟩ := beg_facts c hcd
      have hc : row[p]? = some c := by rw [← hp]; exact at_pre hrow
      have hci : inS c = true := by simp only [List.all_cons, Bool.and_eq_true] at f1; exact f1.1
      have hw1 : (row.drop (p + 1)).takeWhile inS = t := by
        have e1 : row.drop (p + 1) = t ++ txtL xs := by rw [← List.drop_drop, hd]; rfl
        rw [e1]
        simp only [List.cons_append, List.takeWhile_cons, hci, if_true, List.cons.injEq, true_and] at hw
        exact hw
      refine start hc fun σ1 l1 => ?_
      refine iteN (fun _ _ _ _ => rfl) (Is.inStr (Is.loc (x := .str [c]) rfl nofun) Is.str) (fun e σ2 l2 => absurd e (by rw [q1]; decide)) fun e σ2 l2 => ?_
      refine iteN (fun _ _ _ _ => rfl) (Is.inStr (Is.loc (x := .str [c]) rfl nofun) (Is.gv (g := 1))) (fun e σ3 l3 => absurd e (by rw [q2]; decide)) fun e σ3 l3 => ?_
      refine iteN (fun _ _ _ _ => rfl) (Is.or (q := false) (Is.inStr (Is.loc (x := .str [c]) rfl nofun) (Is.gv (g := 0))) fun e => absurd (q3.symm.trans e) (by decide)) (fun e σ4 l4 => ?_) fun e σ4 l4 => absurd (show subIn [c] sBEGINS = false by simpa using e) (by rw [q3]; decide)
      refine asgC2N (Is.loc (x := .str row) rfl nofun) (y := .int ((p + 1 : Nat) : Int)) (Is.cong (Is.add (Is.loc (x := .int (p : Nat)) rfl nofun) Is.int) (by simp)) fun σ5 l5 => callN rfl (end_ok h128 (by omega) (by simp only [List.length_cons] at hll; omega) fun σ6 l6 => ⟨nofun, ?_⟩)
      rw [hw1]
      have l16 := ((((l1.trans l2).trans l3).trans l4).trans l5).trans l6
      have e1 : p + 1 + t.length = p + (c :: t).length := by simp only [List.length_cons]; omega
      rw [e1]
      show swpN _ _ _ [.str row, .int line, .ref f, .int (p : Nat), .str [c], .int ((p + (c :: t).length : Nat) : Int), o6] σ6 _ E
      refine exprN (fun _ _ _ _ => rfl) (appE rfl (l16.get hf) ((Ev.mkPiece Is.str (t := c :: t) (Is.cong (Is.slcBoth (m := p) (n := p + (c :: t).length) (Is.loc (x := .str row) rfl nofun) (Is.loc (x := .int (p : Nat)) rfl nofun) (Is.loc (x := .int ((p + (c :: t).length : Nat) : Int)) rfl nofun) (by omega) (by omega)) (by rw [hd]; congr 1; simp)) Is.int).run ?_))
      rintro _ σ7 l7 ⟨r, rfl, hr⟩
      have l17 := l16.trans l7
      refine app_ok (l17.get hf) (by omega) nofun ?_
      obtain ⟨k1, k2, k3⟩ := pushed (k := .val ⟨c :: t, [], 0⟩) l17 (l17.get hf) ⟨r, rfl, rfl, .inr ⟨hr, rfl⟩⟩
      refine letN (fun _ _ _ _ => rfl) (Is.loc (x := .int ((p + (c :: t).length : Nat) : Int)) rfl nofun) nofun fun σ8 l8 => skipN (skipN (skipN (skipNE ?_)))
      exact hR σ8 _ _ _ [.ref r] (k1.trans l8.of) (l8.get k2) (k3.mono (l := []) l8 (by intro a m; cases m))
  | sign t =>
    have hm : t ∈ lSIGNS := by simpa [Lx.good] using good
    have g := List.all_eq_true.mp sgn_facts t hm
    simp only [Lx.txt] at hll hd hrow hR
    cases t with
    | nil => cases g
    | cons c t =>
      simp only [sgnT, Bool.and_eq_true, decide_eq_true_eq, Bool.not_eq_true'] at g
      obtain ⟨⟨⟨⟨⟨⟨q1, q2⟩, q3⟩, q4⟩, q5⟩, q6⟩, q7⟩ := g
      have hc : row[p]? = some c := by rw [← hp]; exact at_pre hrow
      have hnp : c = 37 → lPARTS2.any (· == 37 :: (txtL xs).takeWhile inS) = false := fun _ => no_part fit'
      refine start hc fun σ1 l1 => ?_
      refine iteN (fun _ _ _ _ => rfl) (Is.inStr (Is.loc (x := .str [c]) rfl nofun) Is.str) (fun e σ2 l2 => absurd e (by rw [q1]; decide)) fun e σ2 l2 => ?_
      refine iteN (fun _ _ _ _ => rfl) (Is.inStr (Is.loc (x := .str [c]) rfl nofun) (Is.gv (g := 1))) (fun e σ3 l3 => absurd e (by rw [q2]; decide)) fun e σ3 l3 => ?_
      have l13 := (l1.trans l2).trans l3
      have hand : Is (cwp theProg (m + 2)) (.and (.cmp .eq (.loc 4) (.str [37])) (.cmp .isin (.slc (.loc 0) (.loc 3) (.call2 1 (.loc 0) (.bin .add (.loc 3) (.int 1)))) (.gv 3))) [.str row, .int line, .ref f, .int (p : Nat), .str [c], o5, o6] σ3 (.bool false) := by
        refine Is.cong (Is.and (q := false) (Is.eqS (Is.loc (x := .str [c]) rfl nofun) Is.str) fun e => ?_) (by simp)
        have hc37 : c = 37 := by have : [c] = [37] := of_decide_eq_true e; simpa using this
        have ht : t = [] := by
          cases t with
          | nil => rfl
          | cons d t => simp only [Bool.or_eq_true, decide_eq_true_eq, List.cons.injEq] at q7; omega
        subst ht
        have e1 : row.drop (p + 1) = txtL xs := by rw [← List.drop_drop, hd]; rfl
        have e2 : (row.drop p).take (p + 1 + ((row.drop (p + 1)).takeWhile inS).length - p) = 37 :: (txtL xs).takeWhile inS := by
          rw [e1, hd, hc37, show p + 1 + ((txtL xs).takeWhile inS).length - p = ((txtL xs).takeWhile inS).length + 1 by omega]
          show 37 :: (txtL xs).take ((txtL xs).takeWhile inS).length = _
          congr 1
          exact (List.prefix_iff_eq_take.mp (List.takeWhile_prefix inS)).symm
        have hsl := Is.slcBoth (C := cwp theProg (m + 2)) (ρ := [.str row, .int line, .ref f, .int (p : Nat), .str [c], o5, o6]) (σ := σ3) (m := p) (n := p + 1 + ((row.drop (p + 1)).takeWhile inS).length) (Is.loc (i := 0) (x := .str row) rfl nofun) (Is.loc (i := 3) (x := .int (p : Nat)) rfl nofun) (Is.numEnd (j := p + 1) (Is.loc (i := 0) (x := .str row) rfl nofun) (Is.cong (Is.add (Is.loc (i := 3) (x := .int (p : Nat)) rfl nofun) (Is.int (t := 1))) (by simp)) h128 (by omega) (by simp only [List.length_cons, List.length_nil] at hll; omega)) (by omega) (by omega)
        rw [e2] at hsl
        exact Is.cong (Is.inTup hsl (Is.gv (g := 3)) (l13.get hP)) (by rw [no_part fit'])
      refine iteN (fun _ _ _ _ => rfl) (Is.or (q := false) (Is.inStr (Is.loc (x := .str [c]) rfl nofun) (Is.gv (g := 0))) fun _ => hand) (fun e σ4 l4 => absurd (show subIn [c] sBEGINS = true by simpa using e) (by rw [q3]; decide)) fun e σ4 l4 => ?_
      refine iteN (fun _ _ _ _ => rfl) (Is.inStr (Is.loc (x := .str [c]) rfl nofun) Is.str) (fun e σ5 l5 => absurd e (by rw [q4]; decide)) fun e σ5 l5 => ?_
      have l15 := (l13.trans l4).trans l5
      have hsl : ∀ {σ : AH}, Is (cwp theProg (m + 2)) (.slc (.loc 0) (.loc 3) (.bin .add (.loc 3) (.int 2))) [.str row, .int line, .ref f, .int (p : Nat), .str [c], o5, o6] σ (.str (((c :: t) ++ txtL xs).take 2)) := fun {σ} =>
        Is.cong (Is.slcBoth (m := p) (n := p + 2) (Is.loc (x := .str row) rfl nofun) (Is.loc (x := .int (p : Nat)) rfl nofun) (Is.cong (Is.add (Is.loc (x := .int (p : Nat)) rfl nofun) Is.int) (by simp)) (by omega) (by omega)) (by rw [hd]; congr 2; omega)
      cases t with
      | cons d t =>
        have ht : c :: d :: t = [60, 60] ∨ c :: d :: t = [62, 62] := by simpa using q7
        have tk : ((c :: d :: t) ++ txtL xs).take 2 = c :: d :: t := by rcases ht with h | h <;> (cases h; rfl)
        have l2' : (c :: d :: t).length = 2 := by rcases ht with h | h <;> (rw [h]; rfl)
        rw [tk] at hsl
        rw [l2'] at hR
        refine iteN (fun _ _ _ _ => rfl) (Is.inTup2 hsl) (fun e σ6 l6 => ?_) fun e σ6 l6 => absurd e (by rw [eq_any2, decide_eq_true ht]; decide)
        have l16 := l15.trans l6
        refine exprN (fun _ _ _ _ => rfl) (appE rfl (l16.get hf) ((Ev.mkPiece Is.str hsl Is.int).run ?_))
        rintro _ σ7 l7 ⟨r, rfl, hr⟩
        have l17 := l16.trans l7
        refine app_ok (l17.get hf) (by omega) nofun ?_
        obtain ⟨k1, k2, k3⟩ := pushed (k := .op (c :: d :: t)) l17 (l17.get hf) ⟨r, rfl, hr⟩
        refine letN (fun _ _ _ _ => rfl) (x := .int ((p + 2 : Nat) : Int)) (Is.cong (Is.add (Is.loc (x := .int (p : Nat)) rfl nofun) Is.int) (by simp)) nofun fun σ8 l8 => skipN (skipN (skipN (skipN (skipN (skipNE ?_)))))
        exact hR σ8 _ _ _ [.ref r] (k1.trans l8.of) (l8.get k2) (k3.mono (l := []) l8 (by intro a m; cases m))
      | nil =>
        simp only [Bool.and_eq_true, decide_eq_true_eq] at q7
        obtain ⟨⟨r1, r2⟩, r3⟩ := q7
        refine iteN (fun _ _ _ _ => rfl) (Is.inTup2 hsl) (fun e σ6 l6 => ?_) fun e σ6 l6 => ?_
        · rw [eq_any2] at e
          have := of_decide_eq_true e
          simp only [List.cons_append, List.nil_append, List.take_succ_cons, List.cons.injEq] at this
          omega
        have l16 := l15.trans l6
        refine iteN (fun _ _ _ _ => rfl) (Is.inStr (Is.loc (x := .str [c]) rfl nofun) Is.str) (fun e σ7 l7 => ?_) fun e σ7 l7 => absurd (show subIn [c] mkS = false from e) (by rw [r1]; decide)
        have l17 := l16.trans l7
        refine exprN (fun _ _ _ _ => rfl) (appE rfl (l17.get hf) ((Ev.mkPiece Is.str (Is.loc (x := .str [c]) rfl nofun) Is.int).run ?_))
        rintro _ σ8 l8 ⟨r, rfl, hr⟩
        have l18 := l17.trans l8
        refine app_ok (l18.get hf) (by omega) nofun ?_
        obtain ⟨k1, k2, k3⟩ := pushed (k := .op [c]) l18 (l18.get hf) ⟨r, rfl, hr⟩
        refine letN (fun _ _ _ _ => rfl) (x := .int ((p + 1 : Nat) : Int)) (Is.cong (Is.add (Is.loc (x := .int (p : Nat)) rfl nofun) Is.int) (by simp)) nofun fun σ9 l9 => skipN (skipN (skipN (skipN (skipN (skipN (skipNE ?_))))))
        exact hR σ9 _ _ _ [.ref r] (k1.trans l9.of) (l9.get k2) (k3.mono (l := []) l9 (by intro a m; cases m))
end
end Nm
end

section
open PySem PySem.W PyProof.Rows
set_option tactic.hygienic false
set_option maxRecDepth 100000
set_option maxHeartbeats 2000000
set_option linter.unusedVariables false
set_option linter.unusedSimpArgs false
namespace Nm
theorem lx_head {a : Lx} (h : a.good = true) : ∃ c cs, a.txt = c :: cs ∧ c ≠ 35 := by
  cases a with
  | blank => exact ⟨32, [], rfl, by decide⟩
  | num v t =>
    have f := num_facts h
    simp only [numOk, Bool.and_eq_true] at f
    cases t with
    | nil => cases f.1.1.1.1.2
    | cons c t => exact ⟨c, t, rfl, (dig_facts c (by simpa [headIn] using f.1.1.1.1.2)).2.2.1⟩
  | quo c => exact ⟨39, _, rfl, by decide⟩
  | name s =>
    have f := name_facts h
    simp only [nameOk, Bool.and_eq_true] at f
    cases s with
    | nil => cases f.1.1.2
    | cons c t => exact ⟨c, t, rfl, (beg_facts c (by simpa [headIn] using f.1.1.2)).2.2.2.1⟩
  | sign t =>
    have hm : t ∈ lSIGNS := by simpa [Lx.good] using h
    have g := List.all_eq_true.mp sgn_facts t hm
    cases t with
    | nil => cases g
    | cons c t =>
      simp only [sgnT, Bool.and_eq_true, decide_eq_true_eq] at g
      exact ⟨c, t, rfl, g.1.1.2⟩
theorem tok_le (a : Lx) : a.tok.length ≤ 1 := by cases a <;> simp [Lx.tok]
theorem len_le : ∀ {xs : List Lx}, Fit xs = true → xs.length ≤ (txtL xs).length
  | [], _ => by simp
  | a :: xs, h => by
    obtain ⟨f, g, _⟩ := fit_tail h
    have ih := len_le f
    obtain ⟨c, cs, e, _⟩ := lx_head g
    rw [txt_cons, e]
    simp only [List.length_append, List.length_cons]
    omega
section
variable {C CN : CallT} {a b c d e : AE} {ρ : List AV} {σ : AH} {E : AH → Prop} {x y z u : AV} {Q : SQ} {s s' t : AS} {K : VQ}
noncomputable def pieceCond : AE := .and (.cmp .lt (.loc 3) (.b1 .len (.loc 0))) (.cmp .ne (.idx (.loc 0) (.loc 3)) (.str [35]))
theorem piece_loop {m f : Nat} {row : List Nat} {line : Int} {R : SQ} (h128 : ∀ c ∈ row, c < 128) (hlen : row.length ≤ 1000) : ∀ (xs : List Lx) (pre : List Nat) (ps : List AV) (ks : List Tk) (σ : AH) (o4 o5 o6 : AV), row = pre ++ txtL xs → Fit xs = true → ps.length + xs.length ≤ 10000 →
    σ aPARTS = some (.tup (lPARTS2.map .str)) → σ f = some (.list ps) → Pieces σ ps ks →
    (∀ σ' qs o3' o4' o5' o6', Kp [f] σ σ' → σ' f = some (.list qs) → Pieces σ' qs (ks ++ tokL xs) → R .next [.str row, .int line, .ref f, o3', o4', o5', o6'] σ') →
    whileN (fun ρ σ q => ewp (cwp theProg (m + 2)) pieceCond ρ σ q E) (fun ρ σ q => swpN (cwp theProg (m + 2)) (cwpN theProg (m + 2)) pieceBody ρ σ q E) R (xs.length + 1) [.str row, .int line, .ref f, .int (pre.length : Nat), o4, o5, o6] σ := by
  intro xs
  induction xs with
  | nil =>
    intro pre ps ks σ o4 o5 o6 hrow fit hps hP hf hp hR
    have hl : row.length = pre.length := by rw [hrow]; simp [txtL]
    refine (Is.and (q := true) (Is.lt (Is.loc (x := .int (pre.length : Nat)) rfl nofun) (Is.lenS (p := row) (Is.loc rfl nofun) (by omega))) fun e => absurd (of_decide_eq_true e) (by omega)).runK fun σ1 l1 => ?_
    show (if (decide ((pre.length : Int) < row.length) && true) = true then _ else _)
    rw [if_neg (by simp; omega)]
    exact hR σ1 ps _ _ _ _ l1.of (l1.get hf) (by simpa [tokL] using hp.mono (l := []) l1 (by intro a m; cases m))
  | cons a xs ih =>
    intro pre ps ks σ o4 o5 o6 hrow fit hps hP hf hp hR
    obtain ⟨fit', good, _⟩ := fit_tail fit
    obtain ⟨c, cs, hc, hc35⟩ := lx_head good
    rw [txt_cons] at hrow
    have hat : row[pre.length]? = some c := by rw [hc] at hrow; exact at_pre hrow
    have hlt : pre.length < row.length := (List.getElem?_eq_some_iff.mp hat).1
    refine (Is.cong (y := .bool true) (Is.and (Is.lt (Is.loc (x := .int (pre.length : Nat)) rfl nofun) (Is.lenS (p := row) (Is.loc rfl nofun) (by omega))) fun _ => Is.neS (Is.idxS (i := (pre.length : Nat)) (c := c) (Is.loc (x := .str row) rfl nofun) (Is.loc (x := .int (pre.length : Nat)) rfl nofun) (by omega) (by omega) (by simpa using hat)) Is.str) (by simp [hlt, hc35])).runK fun σ1 l1 => ?_
    show swpN _ _ pieceBody [.str row, .int line, .ref f, .int (pre.length : Nat), o4, o5, o6] σ1 _ E
    simp only [List.length_cons] at hps
    refine step_piece hrow fit h128 hlen (by omega) (l1.get hP) (l1.get hf) fun σ2 o4' o5' o6' qs k2 f2 p2 => ?_
    have nl := one_list (l1.get hf)
    have hqs := p2.len
    have := tok_le a
    have hp1 := hp.mono (l := []) l1 (by intro a m; cases m)
    have e1 : ((pre.length + a.txt.length : Nat) : Int) = ((pre ++ a.txt).length : Nat) := by simp
    rw [e1]
    refine ih (pre ++ a.txt) (ps ++ qs) (ks ++ a.tok) σ2 o4' o5' o6' (by rw [hrow, List.append_assoc]) fit' (by rw [List.length_append]; omega) (k2 _ _ (nl.no (by nofun) (l1.get hP)) (l1.get hP)) f2 ((hp1.mono k2 nl).app p2) fun σ' qs' p3 p4 p5 p6 k' f' p' => ?_
    exact hR σ' qs' _ _ _ _ ((l1.of.trans k2).trans k') f' (by rw [tok_cons, ← List.append_assoc]; exact p')
theorem asg2GN {i j : Nat} (he : ∀ ρ σ Q E, ewpN C CN e ρ σ Q E = ewp C e ρ σ Q E) (k : ewp C e ρ σ (fun v σ₁ => ∃ a x y, v = .ref a ∧ σ₁ a = some (.tup [x, y]) ∧ swpN C CN t ((ρ.set i x).set j y) σ₁ Q E) E) : swpN C CN (.seq (.asg2 i j e) t) ρ σ Q E := by
  show ewpN C CN e ρ σ _ E
  rw [he]; exact k
theorem tup2L0 {i : Int} (k : newO σ (.list []) fun x σ₁ => newO σ₁ (.tup [x, .int i]) K) : ewp C (.tup2 .lst0 (.int i)) ρ σ K E := k
theorem pieces_ok {m : Nat} {xs : List Lx} {line : Int} (fit : Fit xs = true) (hlen : (txtL xs).length ≤ 1000) (hP : σ aPARTS = some (.tup (lPARTS2.map .str)))
    (h : ∀ f qs σ', Al σ σ' → σ' f = some (.list qs) → Pieces σ' qs (tokL xs) → K (.ref f) σ') : cwpN theProg (m + 3) 4 [.str (txtL xs), .int line] σ K E := by
  refine defCallN (fn := _) rfl rfl rfl (by simp) ?_
  refine asg2GN (fun _ _ _ _ => rfl) (tup2L0 (new fun f σ1 ff hf l1 => new fun t σ2 _ ht l2 => ⟨t, _, _, rfl, ht, ?_⟩))
  have l12 := l1.trans l2
  show swpN _ _ (.seq (.while pieceCond pieceBody) (.seq (.ret (.loc 2)) .skip)) [.str (txtL xs), .int line, .ref f, .int (([] : List Nat).length : Nat), .unb, .unb, .unb] σ2 _ E
  refine ⟨xs.length + 1, piece_loop (fit_128 fit) hlen xs [] [] [] σ2 _ _ _ rfl fit (by have := len_le fit; simp; omega) (l12.get hP) (l2.get hf) .nil fun σ3 qs _ _ _ _ k3 f3 p3 => ?_⟩
  refine retN (fun _ _ _ _ => rfl) ((Is.loc (x := .ref f) rfl nofun).runK fun σ4 l4 => ?_)
  exact h f qs σ4 ((Kp.fresh1 l12 k3 ff).trans l4) (l4.get f3) (by simpa using p3.mono (l := []) l4 (by intro a m; cases m))

noncomputable def toldBody : AS := (.seq (.ite (.cmp .eq (.attr (.loc 3) 3) (.str [115, 105, 103, 110]))
              (.seq (.expr (.m1 .append (.loc 2) .none))
                .skip)
              (.seq (.expr (.m1 .append (.loc 2) (.ife (.cmp .eq (.attr (.loc 3) 3) (.str [110, 117, 109, 98, 101, 114])) (.mk 0 (.str []) (.str []) (.attr (.loc 3) 5)) (.mk 0 (.attr (.loc 3) 4) (.str []) (.int 0)))))
                .skip))
            .skip)
theorem told_one {f g : Nat} {row : List Nat} {pv o4 : AV} {k : Tk} {done : List AV} (hp : PAt σ pv k) (hg : σ g = some (.list done)) (hl : done.length ≤ 1000) {R : SQ}
    (hR : ∀ tv σ', Kp [g] σ σ' → σ' g = some (.list (done ++ [tv])) → TokAt σ' pv tv k → R .next [.str row, .ref f, .ref g, pv, o4] σ') :
    swp C toldBody [.str row, .ref f, .ref g, pv, o4] σ R E := by
  unfold toldBody
  cases k with
  | op t =>
    obtain ⟨q, rfl, hq⟩ := hp
    refine seq_ite (Is.eqS (Is.kind (Is.loc (x := .ref q) rfl nofun) hq) Is.str) (fun e σ1 l1 => ?_) fun e σ1 l1 => absurd e (by decide)
    refine seq_expr (appE rfl (l1.get hg) ?_)
    refine Is.none.runK fun σ2 l2 => ?_
    have l12 := l1.trans l2
    refine app_ok (l12.get hg) (by omega) nofun ?_
    refine skip_next (skip_end (hR .none _ (l12.of.trans (Kp.set _ (by first | exact .head _ | exact .tail _ (.head _) | simp))) (AH.set_same _ _ _) ?_))
    have hp1 : TokAt σ2 (.ref q) .none (.op t) := ⟨q, _, _, rfl, l12.get hq, rfl⟩
    exact hp1.mono (l := [g]) (Kp.set _ (by first | exact .head _ | exact .tail _ (.head _) | simp)) (one_list (l12.get hg))
  | val s =>
    obtain ⟨q, rfl, hm, hq⟩ := hp
    have key : ∀ {kd tx : List Nat} {v : Int}, σ q = some (.piece kd tx (.int v)) → kd ≠ wSIGN → (kd = wNUM → s.p = [] ∧ s.n = v) → (kd ≠ wNUM → s.p = tx ∧ s.n = 0) →
        swp C (.seq (.ite (.cmp .eq (.attr (.loc 3) 3) (.str [115, 105, 103, 110]))
              (.seq (.expr (.m1 .append (.loc 2) .none))
                .skip)
              (.seq (.expr (.m1 .append (.loc 2) (.ife (.cmp .eq (.attr (.loc 3) 3) (.str [110, 117, 109, 98, 101, 114])) (.mk 0 (.str []) (.str []) (.attr (.loc 3) 5)) (.mk 0 (.attr (.loc 3) 4) (.str []) (.int 0)))))
                .skip))
            .skip) [.str row, .ref f, .ref g, .ref q, o4] σ R E := fun {kd tx v} hq h1 h2 h3 => by
      have L3 : ∀ {C : CallT} {σ : AH}, Is C (.loc 3) [.str row, .ref f, .ref g, .ref q, o4] σ (.ref q) := Is.loc rfl nofun
      refine seq_ite (Is.eqS (Is.kind L3 hq) Is.str) (fun e σ1 l1 => absurd (of_decide_eq_true e) h1) fun e σ1 l1 => ?_
      refine seq_expr (appE rfl (l1.get hg) ?_)
      have hq1 := l1.get hq
      refine (Is.ife (P := fun u σ' => ∃ r, u = .ref r ∧ σ' r = some (.sum s.p s.m s.n)) (Is.eqS (Is.kind L3 hq1) Is.str) (fun e => ?_) fun e => ?_).run ?_
      · obtain ⟨e1, e2⟩ := h2 (of_decide_eq_true e)
        rw [e1, e2, hm]
        exact Ev.mkSum Is.str Is.str (Is.val L3 hq1)
      · obtain ⟨e1, e2⟩ := h3 (of_decide_eq_false e)
        rw [e1, e2, hm]
        exact Ev.mkSum (Is.text L3 hq1) Is.str Is.int
      rintro _ σ2 l2 ⟨r, rfl, hr⟩
      have l12 := l1.trans l2
      refine app_ok (l12.get hg) (by omega) nofun ?_
      refine skip_next (skip_end (hR (.ref r) _ (l12.of.trans (Kp.set _ (by first | exact .head _ | exact .tail _ (.head _) | simp))) (AH.set_same _ _ _) ?_))
      have hp1 : TokAt σ2 (.ref q) (.ref r) (.val s) := ⟨q, _, _, _, r, rfl, l12.get hq, rfl, hr⟩
      exact hp1.mono (l := [g]) (Kp.set _ (by first | exact .head _ | exact .tail _ (.head _) | simp)) (one_list (l12.get hg))
    rcases hq with ⟨t, hq, hs⟩ | ⟨hq, hs⟩
    · exact key hq (by decide) (fun _ => ⟨hs, rfl⟩) fun x => absurd rfl x
    · exact key hq (by decide) (fun x => absurd x (by decide)) fun _ => ⟨rfl, hs⟩
theorem told_loop {f g : Nat} {row : List Nat} {all : List AV} {o4 : AV} (hfg : f ≠ g) : ∀ (ps : List AV) (ks : List Tk) (done : List AV) (σ : AH) (o3 : AV) {R : SQ}, Pieces σ ps ks → σ f = some (.list all) → σ g = some (.list done) → done.length + ps.length ≤ 1000 →
    (∀ σ' ts o3', Kp [g] σ σ' → σ' g = some (.list (done ++ ts)) → Toks σ' ps ts ks → R .next [.str row, .ref f, .ref g, o3', o4] σ') →
    forN (fun σ' => σ' f = some (.list all)) (fun x ρ => ρ.set 3 x) (fun ρ σ q => swp C toldBody ρ σ q E) R ps [.str row, .ref f, .ref g, o3, o4] σ := by
  intro ps
  induction ps with
  | nil =>
    intro ks done σ o3 R hp hf hg _ h
    cases hp
    exact ⟨hf, h σ [] o3 (Kp.refl _ _) (by simpa using hg) .nil⟩
  | cons p ps ih =>
    intro ks done σ o3 R hp hf hg hl h
    cases hp with
    | cons hp hps =>
    refine ⟨hf, ?_⟩
    simp only [List.length_cons] at hl
    show swp C toldBody [.str row, .ref f, .ref g, p, o4] σ _ E
    refine told_one hp hg (by omega) fun tv σ1 k1 g1 t1 => ?_
    refine ih _ (done ++ [tv]) σ1 p (hps.mono k1 (one_list hg)) (k1 _ _ (by simpa using hfg) hf) g1 (by simp; omega) fun σ' ts o3' k' g' t' => ?_
    exact h σ' (tv :: ts) o3' (k1.trans k') (by simpa using g') (.cons (t1.mono k' (one_list g1)) t')

theorem Ev.lstName {s : List Nat} (h : Is C a ρ σ (.str s)) : Ev C (.ife (.cmp .ne a (.str [])) (.lst1 a) .lst0) ρ σ fun v σ' => ∃ p, v = .ref p ∧ σ' p = some (.list ((lst s).map .str)) :=
  Is.ife (Is.neS h Is.str) (fun e => fun σ₀ l K E k => by
    have q : s ≠ [] := of_decide_eq_false (not1 e)
    refine Is.runK (K := fun x σ₁ => newO σ₁ (.list [x]) K) (h.at l) fun σ1 l1 => new fun p σ2 _ hp l2 => k _ σ2 (l1.trans l2) ⟨p, rfl, ?_⟩
    rw [hp]; simp [lst, q]) fun e => fun σ₀ l K E k => by
    have q : s = [] := by simpa using e
    refine new fun p σ2 _ hp l2 => k _ σ2 l2 ⟨p, rfl, ?_⟩
    rw [hp]; simp [lst, q]
theorem seqTry (k : swpN C CN s ρ σ (fun o ρ₁ σ₁ => match o with | .next => swpN C CN t ρ₁ σ₁ Q E | .ret v => Q (.ret v) ρ₁ σ₁) (fun σ₁ => swp C s' (List.replicate ρ.length .unb) σ₁ (fun o ρ₁ σ₁ => match o with | .next => swpN C CN t ρ₁ σ₁ Q E | .ret v => Q (.ret v) ρ₁ σ₁) E)) :
    swpN C CN (.seq (.tryF s s') t) ρ σ Q E := k
theorem seqForN {i : Nat} (k : ewp C e ρ σ (fun v σ₁ => forV v σ₁ fun G xs => forN G (fun x ρ => ρ.set i x) (fun ρ σ q => swp C s ρ σ q E) (fun o ρ₁ σ₁ => match o with | .next => swpN C CN t ρ₁ σ₁ Q E | .ret v => Q (.ret v) ρ₁ σ₁) xs ρ σ₁) E) :
    swpN C CN (.seq (.forIn i e s) t) ρ σ Q E := k
theorem asgC3N {f i : Nat} (h1 : Is C a ρ σ x) (h2 : Is C b ρ σ y) (h3 : Is C c ρ σ z) (k : ∀ σ', Al σ σ' → CN f [x, y, z] σ' (fun v σ₁ => v ≠ .unb ∧ swpN C CN t (ρ.set i v) σ₁ Q E) E) : swpN C CN (.seq (.asg i (.call3 f a b c)) t) ρ σ Q E :=
  show ewp C a ρ σ (fun x σ₁ => ewp C b ρ σ₁ (fun y σ₂ => ewp C c ρ σ₂ (fun z σ₃ => CN f [x, y, z] σ₃ _ E) E) E) E from h1.runK fun σ1 l1 => Is.runK (h2.at l1) fun σ2 l2 => Is.runK (h3.at (l1.trans l2)) fun σ3 l3 => k σ3 ((l1.trans l2).trans l3)
theorem Pieces.al {σ σ' : AH} {ps : List AV} {ks : List Tk} (h : Pieces σ ps ks) (l : Al σ σ') : Pieces σ' ps ks := h.mono (l := []) l (by intro a m; cases m)
theorem Toks.al {σ σ' : AH} {ps ts : List AV} {ks : List Tk} (h : Toks σ ps ts ks) (l : Al σ σ') : Toks σ' ps ts ks := h.mono (l := []) l (by intro a m; cases m)
theorem read_ok {m : Nat} {xs : List Lx} (fit : Fit xs = true) (hlen : (txtL xs).length ≤ 1000) (hk : (tokL xs).length ≤ 100) (hP : σ aPARTS = some (.tup (lPARTS2.map .str))) (hL : σ aLEVELS = some (.dict pLEV))
    (h : ∀ v σ', Al σ σ' → CmAt σ' v ((parseS (tokL xs)).map rep) → K v σ') : cwpN theProg (m + 6) 21 [.str (txtL xs)] σ K E := by
  refine defCallN (fn := _) rfl rfl rfl (by simp) ?_
  show swpN _ _ body_law_read [.str (txtL xs), .unb, .unb, .unb, .unb] σ _ E
  refine seqTry ?_
  refine asgC2N (Is.loc (x := .str (txtL xs)) rfl nofun) Is.int fun σ1 l1 => pieces_ok (m := m + 2) fit hlen (l1.get hP) fun f ps σ2 l2 f2 p2 => ⟨nofun, ?_⟩
  show swpN _ _ _ [.str (txtL xs), .ref f, .unb, .unb, .unb] σ2 _ _
  refine asgN (fun _ _ _ _ => rfl) (new fun g σ3 fg hg l3 => ⟨nofun, ?_⟩)
  show swpN _ _ _ [.str (txtL xs), .ref f, .ref g, .unb, .unb] σ3 _ _
  have l13 := (l1.trans l2).trans l3
  have hfg : f ≠ g := fun q => by rw [q] at f2; rw [fg] at f2; cases f2
  have frg : σ g = none := by
    cases e : σ g with
    | none => rfl
    | some o => have := (l1.trans l2).get e; rw [fg] at this; cases this
  have hpl := p2.len
  refine seqForN ((Is.loc (x := .ref f) rfl nofun).runK fun σ4 l4 => ⟨ps, l4.get (l3.get f2), by rw [hpl, show big = 16777216 from rfl]; omega, ?_⟩)
  have l34 := l3.trans l4
  refine told_loop hfg ps (tokL xs) [] σ4 .unb (p2.al l34) (l34.get f2) (l4.get hg) (by simp; omega) fun σ5 ts o3 k5 g5 t5 => ?_
  have l05 : Al σ σ5 := Kp.fresh1 (l13.trans l4) k5 frg
  have f5 : σ5 f = some (.list ps) := k5 _ _ (by simpa using hfg) (l34.get f2)
  refine asgC3N (Is.loc (x := .ref f) rfl nofun) (Is.loc (x := .ref g) rfl nofun) Is.int fun σ6 l6 => callN rfl ?_
  have l06 := l05.trans l6
  refine expr_ok (t5.al l6) (l6.get f5) (l6.get (by simpa using g5)) hk (fun v m => tok_val fit m) (fun t m => tok_op fit m) (l06.get hL) (fun v r σ7 e l7 hr => ⟨nofun, ?_⟩) fun e σ7 l7 => ?_
  · refine skipNE ?_
    show swpN _ _ _ [.str (txtL xs), .ref f, .ref g, o3, .ref r] σ7 _ E
    refine retN (fun _ _ _ _ => rfl) (tup3E ?_)
    have L4 : ∀ {C : CallT} {σ : AH}, Is C (.loc 4) [.str (txtL xs), .ref f, .ref g, o3, .ref r] σ (.ref r) := Is.loc rfl nofun
    refine (Ev.lstName (Is.plus L4 hr)).run ?_
    rintro _ σ8 l8 ⟨p, rfl, hp⟩
    refine (Ev.lstName (Is.minus L4 (l8.get hr))).run ?_
    rintro _ σ9 l9 ⟨q, rfl, hq⟩
    refine (Is.number L4 ((l8.trans l9).get hr)).runK fun σ10 l10 => new fun o σ11 _ ho l11 => ?_
    refine h _ σ11 ((((l06.trans l7).trans (l8.trans l9)).trans l10).trans l11) ?_
    rw [e]
    exact ⟨o, p, q, rfl, ho, ((l9.trans l10).trans l11).get hp, (l10.trans l11).get hq⟩
  · refine ret_is Is.none fun σ8 l8 => ?_
    refine h _ σ8 ((l06.trans l7).trans l8) ?_
    rw [e]; rfl
end
end Nm
end

section
open PySem PySem.W PyProof.Rows
set_option tactic.hygienic false
set_option maxRecDepth 100000
set_option maxHeartbeats 2000000
set_option linter.unusedVariables false
set_option linter.unusedSimpArgs false
namespace Nm
/-- the text's tables are there -/
structure Tabs (σ : AH) : Prop where
  p : σ aPARTS = some (.tup (lPARTS2.map .str))
  l : σ aLEVELS = some (.dict pLEV)
  m : σ aMARKS = some (.tup (pMARKS.map .str))
  i : σ aILL = some (.tup (lILL2.map .str))
theorem Tabs.mono {l : List Nat} {σ σ' : AH} (h : Tabs σ) (k : Kp l σ σ') (n : NotLists l σ) : Tabs σ' :=
  ⟨k _ _ (n.no (by nofun) h.p) h.p, k _ _ (n.no (by nofun) h.l) h.l, k _ _ (n.no (by nofun) h.m) h.m, k _ _ (n.no (by nofun) h.i) h.i⟩
theorem Tabs.al {σ σ' : AH} (h : Tabs σ) (k : Al σ σ') : Tabs σ' := h.mono k (by intro a m; cases m)
section
variable {C CN : CallT} {a b c d e : AE} {ρ : List AV} {σ : AH} {E : AH → Prop} {x y z u : AV} {Q : SQ} {s s' t : AS} {K : VQ}
theorem cm_rd {v : AV} {c : Cm} (h : CmAt σ v (some c)) : Rd σ v (.tuple [.list (c.1.map strD), .list (c.2.1.map strD), .int c.2.2]) := by
  obtain ⟨r, p, m, rfl, h1, h2, h3⟩ := h
  exact .tup h1 (.cons (.list h2 (rd_strs _)) (.cons (.list h3 (rd_strs _)) (.cons (.int _) .nil)))
theorem cm_shaped {c : Cm} (h : CmOK c) : SeqAt.shaped (.tuple [.list (c.1.map strD), .list (c.2.1.map strD), .int c.2.2]) = true := by
  have e1 := shaped_pl h.1
  have e2 := shaped_pl h.2.1
  simp only [SeqAt.shaped, Bool.and_eq_true, decide_eq_true_eq, PyData.canLay0, PyData.depth] at e1 e2
  simp only [SeqAt.shaped, PyData.canLay0, PyData.canLayAll0, PyData.depth, PyData.depthAll, Bool.and_eq_true, decide_eq_true_eq, e1.1, e2.1, and_self, true_and]
  have d1 : PyData.depthAll (c.1.map strD) = 0 := depth_strs c.1
  have d2 : PyData.depthAll (c.2.1.map strD) = 0 := depth_strs c.2.1
  simp only [d1, d2]; decide
/-- the same reckoning is not unequal -/
theorem cm_ne {v u : AV} {c : Option Cm} (h : CmAt σ v c) (h' : CmAt σ u c) (ok : ∀ q, c = some q → CmOK q) (k : K (.bool false) σ) : cmpV .ne v u σ K := by
  cases c with
  | none =>
    rw [show v = .none from h, show u = .none from h']
    exact k
  | some c =>
    have sh := cm_shaped (ok c rfl)
    have r1 := cm_rd h
    have r2 := cm_rd h'
    have rf := SeqAt.eqv_refl _ (show (PyData.tuple [.list (c.1.map strD), .list (c.2.1.map strD), .int c.2.2]).canLay0 = true by simp only [SeqAt.shaped, Bool.and_eq_true] at sh; exact sh.1)
    obtain ⟨r, p, m, rfl, _⟩ := h
    obtain ⟨r', p', m', rfl, _⟩ := h'
    refine ⟨_, _, r1, r2, sh, sh, ?_⟩
    rw [rf]; exact k
theorem iteCN {o : COp} {f : Nat} (k : ewp C a ρ σ (fun x σ₁ => CN f [x] σ₁ (fun y σ₂ => ewp C b ρ σ₂ (fun z σ₃ => cmpV o y z σ₃ fun v σ₁ => truV v fun g => if g then swpN C CN s ρ σ₁ (fun o ρ₁ σ₁ => match o with | .next => swpN C CN t ρ₁ σ₁ Q E | .ret v => Q (.ret v) ρ₁ σ₁) E else swpN C CN s' ρ σ₁ (fun o ρ₁ σ₁ => match o with | .next => swpN C CN t ρ₁ σ₁ Q E | .ret v => Q (.ret v) ρ₁ σ₁) E) E) E) E) :
    swpN C CN (.seq (.ite (.cmp o (.call1 f a) b) s s') t) ρ σ Q E := k
theorem retCN {o : COp} {f : Nat} (k : ewp C a ρ σ (fun x σ₁ => CN f [x] σ₁ (fun y σ₂ => ewp C b ρ σ₂ (fun z σ₃ => cmpV o y z σ₃ fun v σ₁ => Q (.ret v) ρ σ₁) E) E) E) : swpN C CN (.seq (.ret (.cmp o (.call1 f a) b)) t) ρ σ Q E := k
theorem asgC2EN {f i : Nat} (k : ewp C a ρ σ (fun x σ₁ => ewp C b ρ σ₁ (fun y σ₂ => CN f [x, y] σ₂ (fun v σ₁ => v ≠ .unb ∧ swpN C CN t (ρ.set i v) σ₁ Q E) E) E) E) : swpN C CN (.seq (.asg i (.call2 f a b)) t) ρ σ Q E := k
theorem call3E {f : Nat} (k : ewp C a ρ σ (fun x σ₁ => ewp C b ρ σ₁ (fun y σ₂ => ewp C c ρ σ₂ (fun z σ₃ => C f [x, y, z] σ₃ K E) E) E) E) : ewp C (.call3 f a b c) ρ σ K E := k
theorem ifeE (k : ewp C c ρ σ (fun x σ₁ => truV x fun g => if g then ewp C a ρ σ₁ K E else ewp C b ρ σ₁ K E) E) : ewp C (.ife c a b) ρ σ K E := k
noncomputable def turnBody : AS := (.seq (.asg 3 (.call2 15 (.loc 1) (.ife (.cmp .eq (.loc 2) (.int 0)) (.call2 12 (.loc 1) (.int 10)) (.call2 12 (.loc 1) (.int 4)))))
        (.seq (.ite (.cmp .ne (.call1 21 (.call3 17 (.loc 1) (.loc 3) (.int 0))) (.call1 20 (.loc 3)))
          (.seq (.ret (.bool false))
            .skip)
          .skip)
        .skip))
theorem turn_ok {n w : Nat} {k : Int} {R : SQ} {x0 o3 : AV} (hn : 30 ≤ n) (W : Well w σ) (T : Tabs σ) (hR : ∀ σ' o3', Well w σ' → Tabs σ' → R .next [x0, .ref w, .int k, o3'] σ') :
    swpN (cwp theProg n) (cwpN theProg n) turnBody [x0, .ref w, .int k, o3] σ R E := by
  obtain ⟨m, rfl⟩ : ∃ m, n = m + 6 := ⟨n - 6, by omega⟩
  have L1 : ∀ {C : CallT} {σ : AH} {o : AV}, Is C (.loc 1) [x0, .ref w, .int k, o] σ (.ref w) := Is.loc rfl nofun
  refine asgC2EN (L1.runK fun σ1 l1 => ifeE ((Is.eqI (Is.loc (x := .int k) rfl nofun) Is.int).runK fun σ2 l2 => ?_))
  have l12 := l1.trans l2
  -- the tree is drawn
  have go : ∀ {size : Int}, 0 < size → size ≤ 10 → ewp (cwp theProg (m + 6)) (.call2 12 (.loc 1) (.int size)) [x0, .ref w, .int k, o3] σ2 (fun y σ₂ => cwpN theProg (m + 6) 15 [.ref w, y] σ₂ (fun v σ₁ => v ≠ .unb ∧ swpN (cwp theProg (m + 6)) (cwpN theProg (m + 6)) (.seq (.ite (.cmp .ne (.call1 21 (.call3 17 (.loc 1) (.loc 3) (.int 0))) (.call1 20 (.loc 3)))
          (.seq (.ret (.bool false))
            .skip)
          .skip)
        .skip) ([x0, .ref w, .int k, o3].set 3 v) σ₁ R E) E) E := fun {size} h0 h1 => by
    refine draw_call (n := m + 5) (W.at l12) L1 Is.int h0 fun d σ3 d0 d1 W3 k3 => callN rfl ?_
    obtain ⟨many, rfl⟩ : ∃ many : Nat, d = many := ⟨d.toNat, by omega⟩
    have T3 := (T.al l12).mono k3 (W.at l12).lists
    refine tree_ok many W3 T3.m (fun r T σ4 W4 k4 ht ok nd => ⟨nofun, ?_⟩) _ (by omega)
    have T4 := T3.mono k4 W3.lists
    show swpN _ _ _ [x0, .ref w, .int k, .ref r] σ4 _ E
    have L1 : ∀ {C : CallT} {σ : AH}, Is C (.loc 1) [x0, .ref w, .int k, .ref r] σ (.ref w) := Is.loc rfl nofun
    have L3 : ∀ {C : CallT} {σ : AH}, Is C (.loc 3) [x0, .ref w, .int k, .ref r] σ (.ref r) := Is.loc rfl nofun
    refine iteCN (call3_ok L1 L3 Is.int fun σ5 l5 => written_ok T 0 ok (by omega) (W4.at l5) (ht.al l5) (fun x kk σ6 hw W6 k6 => ?_) _ (by omega))
    have T6 := (T4.al l5).mono k6 (W4.at l5).lists
    have ht6 := (ht.al l5).mono k6 (W4.at l5).lists
    obtain ⟨xs, f1, rfl, rfl, f4, f5⟩ := wr_lex ok hw
    refine read_ok (m := m) f1 (by omega) (by omega) T6.p T6.l fun v σ7 l7 hv => ?_
    rw [parse_written (ok_okS ok) hw, ← comes_eq T (ok_okS ok)] at hv
    refine call1_ok L3 fun σ8 l8 => comes_ok T ok (by have := bits_le T ok; omega) (ht6.al (l7.trans l8)) (fun u σ9 l9 hu => ?_) _ (by omega)
    refine cm_ne (hv.al (l8.trans l9)) hu (fun q e => comes_cmok T q ok e) ?_
    show R .next [x0, .ref w, .int k, .ref r] σ9
    have l79 := (l7.trans l8).trans l9
    exact hR σ9 _ (W6.at l79) (T6.al l79)
  show (if decide (k = 0) = true then _ else _)
  by_cases hk : k = 0
  · exact iteT hk (go (by decide) (by decide))
  · exact iteF hk (go (by decide) (by decide))
theorem ill_at {d : Int} (d0 : 0 ≤ d) (d1 : d < 15) : ∃ xs, Fit xs = true ∧ parseS (tokL xs) = none ∧ (txtL xs).length ≤ 100 ∧ (tokL xs).length ≤ 100 ∧ (lILL2.map AV.str)[d.toNat]? = some (.str (txtL xs)) := by
  have hl : d.toNat < illL.length := by rw [show illL.length = 15 from rfl]; omega
  have g := List.all_eq_true.mp ill_ok _ (List.getElem_mem hl)
  simp only [Bool.and_eq_true, decide_eq_true_eq] at g
  refine ⟨illL[d.toNat], g.1.1.1, g.1.1.2, g.1.2, g.2, ?_⟩
  rw [← ill_txt, List.getElem?_map, List.getElem?_map, List.getElem?_eq_getElem hl]; rfl
theorem lst3E (k : ewp C a ρ σ (fun x σ₁ => ewp C b ρ σ₁ (fun y σ₂ => ewp C c ρ σ₂ (fun z σ₃ => newO σ₃ (.list [x, y, z]) K) E) E) E) : ewp C (.lst3 a b c) ρ σ K E := k
theorem compE {p : Nat} {ns : List Int} (h0 : ρ.getD 0 .unb = .ref p) (h : σ p = some (.ro ns)) (hl : ns.length ≤ 1000) (k : newO σ (.ro ((ns.take 40).map fun i => i.fmod 2147483647)) K) : ewp C .comp ρ σ K E := ⟨p, ns, h0, h, hl, k⟩
theorem seqRangeN {i n : Nat} (hn : n ≤ 100) (k : forN (fun _ => True) (fun (k : Nat) ρ => ρ.set i (.int k)) (fun ρ σ q => swpN C CN s ρ σ q E) (fun o ρ₁ σ₁ => match o with | .next => swpN C CN t ρ₁ σ₁ Q E | .ret v => Q (.ret v) ρ₁ σ₁) (List.range n) ρ σ) :
    swpN C CN (.seq (.forRange i n s) t) ρ σ Q E := ⟨hn, k⟩
theorem law_ok {p : Nat} {ns : List Int} (hp : σ p = some (.ro ns)) (hl : ns.length ≤ 1000) (T : Tabs σ) (h : ∀ σ', K (.bool true) σ') : cwpN theProg 41 22 [.ref p] σ K E := by
  refine defCallN (fn := _) rfl rfl rfl (by simp) ?_
  show swpN _ _ body_law [.ref p, .unb, .unb, .unb] σ _ E
  refine asgN (fun _ _ _ _ => rfl) (lst3E (compE rfl hp hl (new fun x σ1 fx hx l1 => intE (intE (new fun w σ2 fw hw l2 => ⟨nofun, ?_⟩)))))
  show swpN _ _ _ [.ref p, .ref w, .unb, .unb] σ2 _ E
  have W : Well w σ2 := by
    refine ⟨x, _, 0, 1, hw, l2.get hx, ?_, Nat.zero_le _, ?_, ?_, by decide, by decide⟩
    · intro q
      rw [q] at fw
      rw [fw] at hx
      cases hx
    · rw [List.length_map, List.length_take]; omega
    · intro m hm
      obtain ⟨i, _, rfl⟩ := List.mem_map.mp hm
      exact ⟨Int.fmod_nonneg_of_pos _ (by decide), Int.fmod_lt_of_pos _ (by decide)⟩
  have T2 := T.al (l1.trans l2)
  refine seqRangeN (by decide) ⟨trivial, ?_⟩
  show swpN (cwp theProg 40) (cwpN theProg 40) turnBody [.ref p, .ref w, .int ((0 : Nat) : Int), .unb] σ2 _ E
  refine turn_ok (by decide) W T2 fun σ3 o3 W3 T3 => ⟨trivial, ?_⟩
  show swpN (cwp theProg 40) (cwpN theProg 40) turnBody [.ref p, .ref w, .int ((1 : Nat) : Int), o3] σ3 _ E
  refine turn_ok (by decide) W3 T3 fun σ4 o4 W4 T4 => ⟨trivial, ?_⟩
  show swpN (cwp theProg 40) (cwpN theProg 40) _ [.ref p, .ref w, .int ((1 : Nat) : Int), o4] σ4 _ E
  have L1 : ∀ {C : CallT} {σ : AH}, Is C (.loc 1) [.ref p, .ref w, .int ((1 : Nat) : Int), o4] σ (.ref w) := Is.loc rfl nofun
  refine retCN (idxE (Is.runK (Is.gv (g := 6)) fun σ5 l5 => draw_call (n := 39) (size := 15) (W4.at l5) L1 (Is.cong (Is.lenTup (Is.gv (g := 6)) (l5.get T4.i) (by decide)) (by rw [List.length_map]; rfl)) (by decide) fun d σ6 d0 d1 W6 k6 => ?_))
  have T6 := (T4.al l5).mono k6 (W4.at l5).lists
  obtain ⟨xs, g1, g2, g3, g4, g5⟩ := ill_at d0 d1
  refine idx_tup (t := aILL) T6.i d0 (by omega) g5 ?_
  refine read_ok (m := 34) g1 (by omega) g4 T6.p T6.l fun v σ7 l7 hv => ?_
  rw [g2] at hv
  rw [show v = .none from hv]
  exact ⟨nofun, rfl, h σ7⟩
end
end Nm
end

section
open PySem PySem.W PySem.Calls PyProof.Rows
set_option tactic.hygienic false
set_option maxRecDepth 100000
set_option maxHeartbeats 2000000
namespace Nm
theorem lawAll (a : Nat) (ns : List Int) (hl : ns.length ≤ 63) (hne : ∀ t ∈ [aPARTS, aLEVELS, aMARKS, aILL], a ≠ t) : ∃ n ≤ 300, cwpN theProg (n + 1) 22 [.ref a] (start a ns) (fun v _ => v = .bool true) (fun _ => False) := by
  have h1 : aPARTS ≠ a := fun e => hne aPARTS (by simp) e.symm
  have h2 : aLEVELS ≠ a := fun e => hne aLEVELS (by simp) e.symm
  have h3 : aMARKS ≠ a := fun e => hne aMARKS (by simp) e.symm
  have h4 : aILL ≠ a := fun e => hne aILL (by simp) e.symm
  refine ⟨40, by decide, law_ok (ns := ns) (by unfold start; rw [if_pos rfl]) (by omega) ⟨?_, ?_, ?_, ?_⟩ fun _ => rfl⟩
  · unfold start; rw [if_neg h1, if_pos rfl]; rfl
  · unfold start; rw [if_neg h2, if_neg (by decide), if_pos rfl]; rfl
  · unfold start; rw [if_neg h3, if_neg (by decide), if_neg (by decide), if_pos rfl]; rfl
  · unfold start; rw [if_neg h4, if_neg (by decide), if_neg (by decide), if_neg (by decide), if_pos rfl]; rfl
theorem all : PySem.Challenge.rw_nm0015_01.Holds := fin lawAll
end Nm
end

set_option maxRecDepth 100000 in
set_option maxHeartbeats 8000000 in
theorem PySem.Challenge.cw_nm0015_01_holds : PySem.Challenge.rw_nm0015_01.Holds :=
  Nm.all
