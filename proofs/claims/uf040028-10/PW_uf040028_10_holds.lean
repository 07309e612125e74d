import PyProof.Rows.All
import PyProof.DictKinds
import PyProof.DictList
import PyProof.PlainList
import PyProof.Cells
import PyProof.RangeIter
import OpenK.AllK
import PyProof.Rows.SortShellK
import Wide.All
import Wide.FinOn
import PySem.Challenge.RW_uf040028_10
set_option Elab.async false
set_option linter.all false
namespace Mine
open PySem
set_option genSizeOf false
set_option genSizeOfSpec false
set_option genInjectivity false

/-- plain values: ints, strs, bools, None, tuples, ranges by value; lists and dicts by address -/
inductive V where
  | none
  | bool (b : Bool)
  | int (i : Int)
  | str (x : Str)
  | tup (l : List V)
  | rng (a b : Int)
  | ref (a : Addr)
/-- an object, and whether it may be changed just now -/
inductive O where
  | list (m : Bool) (l : List V)
  | ds (m : Bool) (es : List (Str × V))
  | di (m : Bool) (es : List (Int × V))
noncomputable def O.mut : O → Bool
  | .list m _ => m
  | .ds m _ => m
  | .di m _ => m
noncomputable def O.frz : O → O
  | .list _ l => .list false l
  | .ds _ es => .ds false es
  | .di _ es => .di false es
abbrev Store := Addr → Option O
abbrev Loc := Nat → Option V
noncomputable def Store.set (σ : Store) (a : Addr) (o : O) : Store := fun b => if b = a then some o else σ b
noncomputable def Loc.set (ρ : Loc) (i : Nat) (v : V) : Loc := fun j => if j = i then some v else ρ j
inductive BOp where | add | sub | mul | fdiv | mod
inductive COp where | eq | ne | lt | le | gt | ge | isin | notin | is
inductive Ty where | int | bool | str | tuple
inductive Tgt where
  | one (i : Nat)
  | many (is : List Nat)
inductive X where
  | var (i : Nat)
  | cst (v : V)
  | gl (x : Str) (v : V)
  | bin (o : BOp) (a b : X)
  | cmp (o : COp) (a b : X)
  | cmp2 (o p : COp) (a b c : X)
  | and (a b : X)
  | or (a b : X)
  | not (a : X)
  | sub (a i : X)
  | slc (a lo hi : X)
  | rev (a : X)
  | list (es : List X)
  | tup (es : List X)
  | dict0
  | dict1 (k v : X)
  | comp (t : Tgt) (it elt : X)
  | compIf (t : Tgt) (it c elt : X)
  | call (f : Nat) (args : List X)
  | len (a : X)
  | listOf (a : X)
  | dictOf (a : X)
  | tupleOf (a : X)
  | isi (a : X) (t : Ty)
  | max2 (a b : X)
  | minOf (a : X)
  | sorted (a : X)
  | sortedP (a : X)
  | rng1 (b : X)
  | rng2 (a b : X)
  | append (o a : X)
  | insert0 (o a : X)
  | pop (o : X)
  | get1 (o k : X)
  | get2 (o k d : X)
inductive S where
  | expr (e : X)
  | asg (t : Tgt) (e : X)
  | setItem (o i e : X)
  | ret (e : X)
  | ite (c : X) (a b : List S)
  | for (t : Tgt) (it : X) (body : List S)
  | forEnum (t : Tgt) (it : X) (body : List S)
  | while (c : X) (body : List S)
  | stop
inductive Fl where
  | next
  | ret (v : V)
abbrev Post := V → Store → Prop
abbrev FPost := Fl → Loc → Store → Prop
abbrev Spec := Nat → List V → Store → Post → Prop
noncomputable def put {K : Type} [DecidableEq K] (es : List (K × V)) (k : K) (v : V) : List (K × V) :=
  if es.any (fun e => e.1 = k) then es.map (fun e => if e.1 = k then (e.1, v) else e) else es ++ [(k, v)]
noncomputable def look {K : Type} [DecidableEq K] (es : List (K × V)) (k : K) : Option V := (es.find? fun e => e.1 = k).map (·.2)
noncomputable def bindMany : List Nat → List V → Loc → Option Loc
  | [], [], ρ => some ρ
  | i :: is, v :: vs, ρ => bindMany is vs (ρ.set i v)
  | _, _, _ => Option.none
noncomputable def bindT : Tgt → V → Loc → Option Loc
  | .one i, v, ρ => some (ρ.set i v)
  | .many is, .tup l, ρ => bindMany is l ρ
  | _, _, _ => Option.none
/-- new object: whatever free address it gets -/
noncomputable def fresh (σ : Store) (o : O) (Q : Post) : Prop := ∀ a, σ a = Option.none → Q (.ref a) (σ.set a o)
noncomputable def strAt (x : Str) (k : Nat) : Option Str := (x.cps.toList[k]?).map fun c => ⟨#[c]⟩
noncomputable def strRep (x : Str) (n : Nat) : Str := ⟨(List.replicate n x.cps.toList).flatten.toArray⟩
noncomputable def rngItems (a b : Int) : List V := (List.range (b - a).toNat).map fun (k : Nat) => V.int (a + (k : Int))
noncomputable def strItems (x : Str) : List V := x.cps.toList.map fun c => V.str ⟨#[c]⟩
noncomputable def wpBin (o : BOp) (a b : V) (σ : Store) (Q : Post) : Prop :=
  match o, a, b with
  | .add, .int i, .int j => Q (.int (i + j)) σ
  | .sub, .int i, .int j => Q (.int (i - j)) σ
  | .mul, .int i, .int j => (i.natAbs < 2 ^ 60 ∨ j.natAbs < 2 ^ 60) ∧ Q (.int (i * j)) σ
  | .fdiv, .int i, .int j => 0 < j ∧ j < 2 ^ 30 ∧ Q (.int (i / j)) σ
  | .mod, .int i, .int j => 0 < j ∧ Q (.int (i % j)) σ
  | .add, .str x, .str y => x.length + y.length ≤ 1000000 ∧ Q (.str (x ++ y)) σ
  | .mul, .str x, .int n => 0 ≤ n ∧ n ≤ 1000000 ∧ x.length ≤ 12 ∧ Q (.str (strRep x n.toNat)) σ
  | .add, .ref p, .ref q => ∃ l l', σ p = some (.list true l) ∧ σ q = some (.list true l') ∧ l.length + l'.length ≤ 1000000 ∧ fresh σ (.list true (l ++ l')) Q
  | _, _, _ => False
/-- what a value reads as, to a depth -/
noncomputable def datL (f : V → Option PyData) : List V → Option (List PyData)
  | [] => some []
  | v :: r => match f v, datL f r with
    | some d, some ds => some (d :: ds)
    | _, _ => Option.none
noncomputable def datB : V → Option PyData
  | .none => some .none
  | .bool b => some (.bool b)
  | .int i => some (.int i)
  | .str x => if PyData.strOk x = true then some (.str x) else Option.none
  | _ => Option.none
noncomputable def dat (σ : Store) : Nat → V → Option PyData
  | 0 => datB
  | n + 1 => fun v => match v with
    | .tup l => (datL (dat σ n) l).map .tuple
    | .ref a => match σ a with
      | some (.list _ l) => (datL (dat σ n) l).map .list
      | _ => Option.none
    | v => datB v
noncomputable def intsOf : List V → Option (List Int)
  | [] => some []
  | .int i :: r => (intsOf r).map (i :: ·)
  | _ => Option.none
/-- a pair of ints -/
noncomputable def pairV (p : Int × Int) : V := .tup [.int p.1, .int p.2]
/-- == of two dicts of ints: told where they are alike -/
noncomputable def eqD (es es' : List (Str × V)) : Option Bool :=
  match intsOf (es.map (·.2)), intsOf (es'.map (·.2)) with
  | some a, some b => if es.map (·.1) = es'.map (·.1) ∧ a = b then some true else Option.none
  | _, _ => Option.none
/-- == of two values that read as data -/
noncomputable def eqT (σ : Store) (a b : V) : Option Bool :=
  match dat σ 4 a, dat σ 4 b with
  | some d, some e => some (PyData.eqv d e)
  | _, _ => Option.none
/-- == of two values -/
noncomputable def eqV (σ : Store) (a b : V) : Option Bool :=
  match a, b with
  | .str x, .str y => some (decide (x = y))
  | .int x, .int y => some (decide (x = y))
  | .ref a, .ref b => match σ a, σ b with
    | some (.ds _ es), some (.ds _ es') => eqD es es'
    | _, _ => eqT σ (.ref a) (.ref b)
  | a, b => eqT σ a b
/-- in, over a list -/
noncomputable def inL (σ : Store) (a : V) (l : List V) : Option Bool :=
  match datL (dat σ 2) l, dat σ 2 a with
  | some ds, some d => some (ds.any fun y => PyData.eqv y d)
  | _, _ => Option.none
noncomputable def subStr (y x : Str) : Bool := !(Builtin.Str.occurrences x y 0 x.length 1).isEmpty
noncomputable def inV (σ : Store) (a b : V) : Option Bool :=
  match b with
  | .ref p => match σ p with
    | some (.list _ l) => inL σ a l
    | some (.ds _ es) => match a with
      | .str k => some (look es k).isSome
      | _ => Option.none
    | some (.di _ es) => match a with
      | .int k => some (look es k).isSome
      | _ => Option.none
    | _ => Option.none
  | .str x => match a with
    | .str y => some (subStr y x)
    | _ => Option.none
  | _ => Option.none
noncomputable def cmpV (o : COp) (a b : V) (σ : Store) : Option Bool :=
  match o with
  | .eq => eqV σ a b
  | .ne => (eqV σ a b).map (!·)
  | .isin => inV σ a b
  | .notin => (inV σ a b).map (!·)
  | .is => match a, b with
    | .none, .none => some true
    | .ref _, .none => some false
    | _, _ => Option.none
  | .lt => match a, b with | .int i, .int j => some (decide (i < j)) | _, _ => Option.none
  | .le => match a, b with | .int i, .int j => some (decide (i ≤ j)) | _, _ => Option.none
  | .gt => match a, b with | .int i, .int j => some (decide (i > j)) | _, _ => Option.none
  | .ge => match a, b with | .int i, .int j => some (decide (i ≥ j)) | _, _ => Option.none
noncomputable def idxL (l : List V) (i : Int) : Option V := if 0 ≤ i then l[i.toNat]? else if -i ≤ l.length then l[(l.length + i).toNat]? else Option.none
noncomputable def subV (σ : Store) (a i : V) : Option V :=
  match a, i with
  | .tup l, .int i => idxL l i
  | .str x, .int i => if 0 ≤ i ∧ i < 1000 then (strAt x i.toNat).map .str else Option.none
  | .ref p, i => match σ p, i with
    | some (.list _ l), .int i => idxL l i
    | some (.ds _ es), .str k => look es k
    | some (.di _ es), .int k => look es k
    | _, _ => Option.none
  | _, _ => Option.none
/-- a cut's ends: none is open, below nought from the end -/
noncomputable def cutAt (n : Nat) (d : Nat) : V → Option Nat
  | .none => some d
  | .int i => some (if 0 ≤ i then min i.toNat n else (n + i).toNat)
  | _ => Option.none
noncomputable def tyV (σ : Store) (v : V) (t : Ty) : Option Bool :=
  match v with
  | .none => some false
  | .bool _ => some (match t with | .int => true | .bool => true | _ => false)
  | .int _ => some (match t with | .int => true | _ => false)
  | .str _ => some (match t with | .str => true | _ => false)
  | .tup _ => some (match t with | .tuple => true | _ => false)
  | .ref a => match σ a with
    | some (.list ..) => some false
    | some (.ds ..) => some false
    | some (.di ..) => some false
    | _ => Option.none
  | _ => Option.none
noncomputable def lenV (σ : Store) : V → Option Nat
  | .tup l => some l.length
  | .str x => some x.length
  | .ref a => match σ a with
    | some (.list _ l) => some l.length
    | some (.ds _ es) => some es.length
    | some (.di _ es) => some es.length
    | _ => Option.none
  | _ => Option.none
/-- what list(..) takes -/
noncomputable def seqOf (σ : Store) : V → Option (List V)
  | .ref a => match σ a with
    | some (.list _ l) => some l
    | _ => Option.none
  | .rng a b => if -1000000 ≤ a ∧ a ≤ 1000000 ∧ -1000000 ≤ b ∧ b ≤ 1000000 then some (rngItems a b) else Option.none
  | _ => Option.none
/-- where a loop goes: the items, and what must stand unchanged at each turn -/
inductive Src (σ : Store) : V → List V → (Store → Prop) → Prop where
  | list {a m l} : σ a = some (.list m l) → Src σ (.ref a) l fun σ' => ∃ m', σ' a = some (.list m' l)
  | rng {a b} : -1000000 ≤ a ∧ a ≤ 1000000 ∧ -1000000 ≤ b ∧ b ≤ 1000000 → Src σ (.rng a b) (rngItems a b) fun _ => True
  | str {x} : Src σ (.str x) (strItems x) fun _ => True
/-- the turns of a loop -/
noncomputable def forW (ok : Store → Prop) (body : V → Loc → Store → FPost → Prop) : List V → Loc → Store → FPost → Prop
  | [], ρ, σ, Q => ok σ ∧ Q .next ρ σ
  | v :: r, ρ, σ, Q => ok σ ∧ body v ρ σ fun f ρ' σ' => match f with
    | .next => forW ok body r ρ' σ' Q
    | .ret x => Q (.ret x) ρ' σ'
/-- the turns of a comprehension -/
noncomputable def compW (ok : Store → Prop) (cnd : V → Store → (Bool → Store → Prop) → Prop) (elt : V → Store → Post → Prop) : List V → List V → Store → (List V → Store → Prop) → Prop
  | [], acc, σ, Q => ok σ ∧ Q acc σ
  | v :: r, acc, σ, Q => ok σ ∧ cnd v σ fun b σ₁ => if b = true then elt v σ₁ fun y σ₂ => compW ok cnd elt r (acc ++ [y]) σ₂ Q else compW ok cnd elt r acc σ₁ Q
noncomputable def whileW (c : Loc → Store → (Bool → Store → Prop) → Prop) (body : Loc → Store → FPost → Prop) : Nat → Loc → Store → FPost → Prop
  | 0, _, _, _ => False
  | n + 1, ρ, σ, Q => c ρ σ fun b σ₁ => if b = true then body ρ σ₁ fun f ρ' σ' => match f with
      | .next => whileW c body n ρ' σ' Q
      | .ret x => Q (.ret x) ρ' σ'
    else Q .next ρ σ₁
noncomputable def asBool (Q : Bool → Store → Prop) : Post := fun v σ => match v with | .bool b => Q b σ | _ => False
mutual
noncomputable def wpE (S : Spec) : X → Loc → Store → Post → Prop
  | .var i, ρ, σ, Q => ∃ v, ρ i = some v ∧ Q v σ
  | .cst v, _, σ, Q => Q v σ
  | .gl _ v, _, σ, Q => Q v σ
  | .bin o a b, ρ, σ, Q => wpE S a ρ σ fun va σ₁ => wpE S b ρ σ₁ fun vb σ₂ => wpBin o va vb σ₂ Q
  | .cmp o a b, ρ, σ, Q => wpE S a ρ σ fun va σ₁ => wpE S b ρ σ₁ fun vb σ₂ => ∃ r, cmpV o va vb σ₂ = some r ∧ Q (.bool r) σ₂
  | .cmp2 o p a b c, ρ, σ, Q => wpE S a ρ σ fun va σ₁ => wpE S b ρ σ₁ fun vb σ₂ => ∃ r, cmpV o va vb σ₂ = some r ∧
      if r = true then wpE S c ρ σ₂ fun vc σ₃ => ∃ r', cmpV p vb vc σ₃ = some r' ∧ Q (.bool r') σ₃ else Q (.bool false) σ₂
  | .and a b, ρ, σ, Q => wpE S a ρ σ (asBool fun t σ₁ => if t = true then wpE S b ρ σ₁ Q else Q (.bool false) σ₁)
  | .or a b, ρ, σ, Q => wpE S a ρ σ (asBool fun t σ₁ => if t = true then Q (.bool true) σ₁ else wpE S b ρ σ₁ Q)
  | .not a, ρ, σ, Q => wpE S a ρ σ (asBool fun t σ₁ => Q (.bool !t) σ₁)
  | .sub a i, ρ, σ, Q => wpE S a ρ σ fun va σ₁ => wpE S i ρ σ₁ fun vi σ₂ => ∃ v, subV σ₂ va vi = some v ∧ Q v σ₂
  | .slc a lo hi, ρ, σ, Q => wpE S a ρ σ fun va σ₁ => wpE S lo ρ σ₁ fun vl σ₂ => wpE S hi ρ σ₂ fun vh σ₃ =>
      ∃ p m l i j, va = .ref p ∧ σ₃ p = some (.list m l) ∧ l.length ≤ 1000000 ∧ cutAt l.length 0 vl = some i ∧ cutAt l.length l.length vh = some j ∧ fresh σ₃ (.list true ((l.drop i).take (j - i))) Q
  | .rev a, ρ, σ, Q => wpE S a ρ σ fun va σ₁ => ∃ p m l, va = .ref p ∧ σ₁ p = some (.list m l) ∧ l.length ≤ 1000000 ∧ fresh σ₁ (.list true l.reverse) Q
  | .list es, ρ, σ, Q => wpEs S es ρ σ fun vs σ₁ => fresh σ₁ (.list true vs) Q
  | .tup es, ρ, σ, Q => wpEs S es ρ σ fun vs σ₁ => Q (.tup vs) σ₁
  | .dict0, _, σ, Q => fresh σ (.di true []) Q
  | .dict1 k v, ρ, σ, Q => wpE S k ρ σ fun vk σ₁ => wpE S v ρ σ₁ fun vv σ₂ => ∃ x, vk = .str x ∧ fresh σ₂ (.ds true [(x, vv)]) Q
  | .comp t it elt, ρ, σ, Q => wpE S it ρ σ fun vi σ₁ => ∃ items ok, Src σ₁ vi items ok ∧ items.length ≤ 1000000 ∧
      compW ok (fun v σ Q => (∃ ρ', bindT t v ρ = some ρ') ∧ Q true σ) (fun v σ Q => ∃ ρ', bindT t v ρ = some ρ' ∧ wpE S elt ρ' σ Q) items [] σ₁ fun acc σ₂ => fresh σ₂ (.list true acc) Q
  | .compIf t it c elt, ρ, σ, Q => wpE S it ρ σ fun vi σ₁ => ∃ items ok, Src σ₁ vi items ok ∧ items.length ≤ 1000000 ∧
      compW ok (fun v σ Q => ∃ ρ', bindT t v ρ = some ρ' ∧ wpE S c ρ' σ (asBool Q)) (fun v σ Q => ∃ ρ', bindT t v ρ = some ρ' ∧ wpE S elt ρ' σ Q) items [] σ₁ fun acc σ₂ => fresh σ₂ (.list true acc) Q
  | .call f args, ρ, σ, Q => wpEs S args ρ σ fun vs σ₁ => S f vs σ₁ Q
  | .len a, ρ, σ, Q => wpE S a ρ σ fun va σ₁ => ∃ n, lenV σ₁ va = some n ∧ n ≤ 1000000 ∧ Q (.int n) σ₁
  | .listOf a, ρ, σ, Q => wpE S a ρ σ fun va σ₁ => ∃ items, seqOf σ₁ va = some items ∧ items.length ≤ 1000000 ∧ fresh σ₁ (.list true items) Q
  | .dictOf a, ρ, σ, Q => wpE S a ρ σ fun va σ₁ => ∃ p m es, va = .ref p ∧ σ₁ p = some (.ds m es) ∧ es.length ≤ 1000000 ∧ fresh σ₁ (.ds true es) Q
  | .tupleOf a, ρ, σ, Q => wpE S a ρ σ fun va σ₁ => ∃ p m l, va = .ref p ∧ σ₁ p = some (.list m l) ∧ l.length ≤ 1000000 ∧ Q (.tup l) σ₁
  | .isi a t, ρ, σ, Q => wpE S a ρ σ fun va σ₁ => ∃ r, tyV σ₁ va t = some r ∧ Q (.bool r) σ₁
  | .max2 a b, ρ, σ, Q => wpE S a ρ σ fun va σ₁ => wpE S b ρ σ₁ fun vb σ₂ => ∃ i j, va = .int i ∧ vb = .int j ∧ Q (.int (max i j)) σ₂
  | .minOf a, ρ, σ, Q => wpE S a ρ σ fun va σ₁ => ∃ p m l i r, va = .ref p ∧ σ₁ p = some (.list m l) ∧ l.length ≤ 1000000 ∧ intsOf l = some (i :: r) ∧ Q (.int (r.foldl min i)) σ₁
  | .sorted a, ρ, σ, Q => wpE S a ρ σ fun va σ₁ => ∃ p m l is, va = .ref p ∧ σ₁ p = some (.list m l) ∧ l.length < 64 ∧ intsOf l = some is ∧ ∀ is' : List Int, is'.Perm is → is'.Pairwise (· ≤ ·) → fresh σ₁ (.list true (is'.map .int)) Q
  | .sortedP a, ρ, σ, Q => wpE S a ρ σ fun va σ₁ => ∃ p m l ps, va = .ref p ∧ σ₁ p = some (.list m l) ∧ l.length < 64 ∧ l = List.map pairV ps ∧ ∀ ps' : List (Int × Int), ps'.Perm ps → ps'.Pairwise (fun a b => a.1 ≤ b.1) → fresh σ₁ (.list true (ps'.map pairV)) Q
  | .rng1 b, ρ, σ, Q => wpE S b ρ σ fun vb σ₁ => ∃ j, vb = .int j ∧ Q (.rng 0 j) σ₁
  | .rng2 a b, ρ, σ, Q => wpE S a ρ σ fun va σ₁ => wpE S b ρ σ₁ fun vb σ₂ => ∃ i j, va = .int i ∧ vb = .int j ∧ Q (.rng i j) σ₂
  | .append o a, ρ, σ, Q => wpE S o ρ σ fun vo σ₁ => ∃ p l₀, vo = .ref p ∧ σ₁ p = some (.list true l₀) ∧ wpE S a ρ σ₁ fun va σ₂ => ∃ l, σ₂ p = some (.list true l) ∧ l.length ≤ 1000000 ∧ Q .none (σ₂.set p (.list true (l ++ [va])))
  | .insert0 o a, ρ, σ, Q => wpE S o ρ σ fun vo σ₁ => ∃ p l₀, vo = .ref p ∧ σ₁ p = some (.list true l₀) ∧ wpE S a ρ σ₁ fun va σ₂ => ∃ l, σ₂ p = some (.list true l) ∧ l.length ≤ 1000000 ∧ Q .none (σ₂.set p (.list true (va :: l)))
  | .pop o, ρ, σ, Q => wpE S o ρ σ fun vo σ₁ => ∃ p l v, vo = .ref p ∧ σ₁ p = some (.list true (l ++ [v])) ∧ l.length ≤ 1000000 ∧ Q v (σ₁.set p (.list true l))
  | .get1 o k, ρ, σ, Q => wpE S o ρ σ fun vo σ₁ => ∃ p m es, vo = .ref p ∧ σ₁ p = some (.ds m es) ∧ wpE S k ρ σ₁ fun vk σ₂ => ∃ m' es' x, vk = .str x ∧ σ₂ p = some (.ds m' es') ∧ Q ((look es' x).getD .none) σ₂
  | .get2 o k d, ρ, σ, Q => wpE S o ρ σ fun vo σ₁ => ∃ p m es, vo = .ref p ∧ σ₁ p = some (.ds m es) ∧ wpE S k ρ σ₁ fun vk σ₂ => wpE S d ρ σ₂ fun vd σ₃ => ∃ m' es' x, vk = .str x ∧ σ₃ p = some (.ds m' es') ∧ Q ((look es' x).getD vd) σ₃
noncomputable def wpEs (S : Spec) : List X → Loc → Store → (List V → Store → Prop) → Prop
  | [], _, σ, Q => Q [] σ
  | e :: r, ρ, σ, Q => wpE S e ρ σ fun v σ₁ => wpEs S r ρ σ₁ fun vs σ₂ => Q (v :: vs) σ₂
end

noncomputable def setV (o i v : V) (σ : Store) (Q : Store → Prop) : Prop :=
  ∃ p, o = .ref p ∧ match σ p, i with
    | some (.list true l), .int k => 0 ≤ k ∧ k < l.length ∧ Q (σ.set p (.list true (l.set k.toNat v)))
    | some (.ds true es), .str x => es.length ≤ 1000000 ∧ Q (σ.set p (.ds true (put es x v)))
    | some (.di true es), .int x => es.length ≤ 1000000 ∧ Q (σ.set p (.di true (put es x v)))
    | _, _ => False
/-- a loop over a dict's keys: the dict is shut meanwhile -/
noncomputable def forD (run : List V → Store → FPost → Prop) (v : V) (σ : Store) (Q : FPost) : Prop :=
  ∃ p o keys, v = .ref p ∧ σ p = some o ∧ (match o with | .ds _ es => keys = es.map fun e => V.str e.1 | .di _ es => keys = es.map fun e => V.int e.1 | _ => False) ∧
    run keys (σ.set p o.frz) fun f ρ' σ' => σ' p = some o.frz ∧ Q f ρ' (σ'.set p o)
noncomputable def isDict (σ : Store) : V → Bool
  | .ref p => match σ p with
    | some (.ds ..) => true
    | some (.di ..) => true
    | _ => false
  | _ => false
mutual
noncomputable def wpS (S : Spec) : Mine.S → Loc → Store → FPost → Prop
  | .expr e, ρ, σ, Q => wpE S e ρ σ fun v σ₁ => match v with | .none => Q .next ρ σ₁ | .bool _ => Q .next ρ σ₁ | _ => False
  | .asg t e, ρ, σ, Q => wpE S e ρ σ fun v σ₁ => ∃ ρ', bindT t v ρ = some ρ' ∧ Q .next ρ' σ₁
  | .setItem o i e, ρ, σ, Q => wpE S e ρ σ fun v σ₁ => wpE S o ρ σ₁ fun vo σ₂ => wpE S i ρ σ₂ fun vi σ₃ => setV vo vi v σ₃ fun σ₄ => Q .next ρ σ₄
  | .ret e, ρ, σ, Q => wpE S e ρ σ fun v σ₁ => Q (.ret v) ρ σ₁
  | .ite c a b, ρ, σ, Q => wpE S c ρ σ (asBool fun t σ₁ => if t = true then wpSs S a ρ σ₁ Q else wpSs S b ρ σ₁ Q)
  | .for t it body, ρ, σ, Q => wpE S it ρ σ fun vi σ₁ =>
      if isDict σ₁ vi = true then forD (fun keys σ' Q' => forW (fun _ => True) (fun v ρ σ Q => ∃ ρ', bindT t v ρ = some ρ' ∧ wpSs S body ρ' σ Q) keys ρ σ' Q') vi σ₁ Q
      else ∃ items ok, Src σ₁ vi items ok ∧ forW ok (fun v ρ σ Q => ∃ ρ', bindT t v ρ = some ρ' ∧ wpSs S body ρ' σ Q) items ρ σ₁ Q
  | .forEnum t it body, ρ, σ, Q => wpE S it ρ σ fun vi σ₁ => ∃ p m l, vi = .ref p ∧ σ₁ p = some (.list m l) ∧ l.length ≤ 1000000 ∧
      forW (fun σ' => ∃ m', σ' p = some (.list m' l)) (fun v ρ σ Q => ∃ ρ', bindT t v ρ = some ρ' ∧ wpSs S body ρ' σ Q) (l.zipIdx.map fun x => .tup [.int x.2, x.1]) ρ σ₁ Q
  | .while c body, ρ, σ, Q => ∃ n, whileW (fun ρ σ Q => wpE S c ρ σ (asBool Q)) (fun ρ σ Q => wpSs S body ρ σ Q) n ρ σ Q
  | .stop, _, _, _ => False
noncomputable def wpSs (S : Spec) : List Mine.S → Loc → Store → FPost → Prop
  | [], ρ, σ, Q => Q .next ρ σ
  | s :: r, ρ, σ, Q => wpS S s ρ σ fun f ρ' σ' => match f with
    | .next => wpSs S r ρ' σ' Q
    | .ret v => Q (.ret v) ρ' σ'
end

theorem we_var {S : Spec} {ρ : Loc} {σ : Store} {Q : Post} {i} : wpE S (.var i) ρ σ Q = (∃ v, ρ i = some v ∧ Q v σ) := rfl
theorem we_cst {S : Spec} {ρ : Loc} {σ : Store} {Q : Post} {v} : wpE S (.cst v) ρ σ Q = (Q v σ) := rfl
theorem we_gl {S : Spec} {ρ : Loc} {σ : Store} {Q : Post} {z0} {v} : wpE S (.gl z0 v) ρ σ Q = (Q v σ) := rfl
theorem we_bin {S : Spec} {ρ : Loc} {σ : Store} {Q : Post} {o} {a} {b} : wpE S (.bin o a b) ρ σ Q = (wpE S a ρ σ fun va σ₁ => wpE S b ρ σ₁ fun vb σ₂ => wpBin o va vb σ₂ Q) := rfl
theorem we_cmp {S : Spec} {ρ : Loc} {σ : Store} {Q : Post} {o} {a} {b} : wpE S (.cmp o a b) ρ σ Q = (wpE S a ρ σ fun va σ₁ => wpE S b ρ σ₁ fun vb σ₂ => ∃ r, cmpV o va vb σ₂ = some r ∧ Q (.bool r) σ₂) := rfl
theorem we_cmp2 {S : Spec} {ρ : Loc} {σ : Store} {Q : Post} {o} {p} {a} {b} {c} : wpE S (.cmp2 o p a b c) ρ σ Q = (wpE S a ρ σ fun va σ₁ => wpE S b ρ σ₁ fun vb σ₂ => ∃ r, cmpV o va vb σ₂ = some r ∧
      if r = true then wpE S c ρ σ₂ fun vc σ₃ => ∃ r', cmpV p vb vc σ₃ = some r' ∧ Q (.bool r') σ₃ else Q (.bool false) σ₂) := rfl
theorem we_and {S : Spec} {ρ : Loc} {σ : Store} {Q : Post} {a} {b} : wpE S (.and a b) ρ σ Q = (wpE S a ρ σ (asBool fun t σ₁ => if t = true then wpE S b ρ σ₁ Q else Q (.bool false) σ₁)) := rfl
theorem we_or {S : Spec} {ρ : Loc} {σ : Store} {Q : Post} {a} {b} : wpE S (.or a b) ρ σ Q = (wpE S a ρ σ (asBool fun t σ₁ => if t = true then Q (.bool true) σ₁ else wpE S b ρ σ₁ Q)) := rfl
theorem we_not {S : Spec} {ρ : Loc} {σ : Store} {Q : Post} {a} : wpE S (.not a) ρ σ Q = (wpE S a ρ σ (asBool fun t σ₁ => Q (.bool !t) σ₁)) := rfl
theorem we_sub {S : Spec} {ρ : Loc} {σ : Store} {Q : Post} {a} {i} : wpE S (.sub a i) ρ σ Q = (wpE S a ρ σ fun va σ₁ => wpE S i ρ σ₁ fun vi σ₂ => ∃ v, subV σ₂ va vi = some v ∧ Q v σ₂) := rfl
theorem we_slc {S : Spec} {ρ : Loc} {σ : Store} {Q : Post} {a} {lo} {hi} : wpE S (.slc a lo hi) ρ σ Q = (wpE S a ρ σ fun va σ₁ => wpE S lo ρ σ₁ fun vl σ₂ => wpE S hi ρ σ₂ fun vh σ₃ =>
      ∃ p m l i j, va = .ref p ∧ σ₃ p = some (.list m l) ∧ l.length ≤ 1000000 ∧ cutAt l.length 0 vl = some i ∧ cutAt l.length l.length vh = some j ∧ fresh σ₃ (.list true ((l.drop i).take (j - i))) Q) := rfl
theorem we_rev {S : Spec} {ρ : Loc} {σ : Store} {Q : Post} {a} : wpE S (.rev a) ρ σ Q = (wpE S a ρ σ fun va σ₁ => ∃ p m l, va = .ref p ∧ σ₁ p = some (.list m l) ∧ l.length ≤ 1000000 ∧ fresh σ₁ (.list true l.reverse) Q) := rfl
theorem we_list {S : Spec} {ρ : Loc} {σ : Store} {Q : Post} {es} : wpE S (.list es) ρ σ Q = (wpEs S es ρ σ fun vs σ₁ => fresh σ₁ (.list true vs) Q) := rfl
theorem we_tup {S : Spec} {ρ : Loc} {σ : Store} {Q : Post} {es} : wpE S (.tup es) ρ σ Q = (wpEs S es ρ σ fun vs σ₁ => Q (.tup vs) σ₁) := rfl
theorem we_dict0 {S : Spec} {ρ : Loc} {σ : Store} {Q : Post} : wpE S (.dict0) ρ σ Q = (fresh σ (.di true []) Q) := rfl
theorem we_dict1 {S : Spec} {ρ : Loc} {σ : Store} {Q : Post} {k} {v} : wpE S (.dict1 k v) ρ σ Q = (wpE S k ρ σ fun vk σ₁ => wpE S v ρ σ₁ fun vv σ₂ => ∃ x, vk = .str x ∧ fresh σ₂ (.ds true [(x, vv)]) Q) := rfl
theorem we_comp {S : Spec} {ρ : Loc} {σ : Store} {Q : Post} {t} {it} {elt} : wpE S (.comp t it elt) ρ σ Q = (wpE S it ρ σ fun vi σ₁ => ∃ items ok, Src σ₁ vi items ok ∧ items.length ≤ 1000000 ∧
      compW ok (fun v σ Q => (∃ ρ', bindT t v ρ = some ρ') ∧ Q true σ) (fun v σ Q => ∃ ρ', bindT t v ρ = some ρ' ∧ wpE S elt ρ' σ Q) items [] σ₁ fun acc σ₂ => fresh σ₂ (.list true acc) Q) := rfl
theorem we_compIf {S : Spec} {ρ : Loc} {σ : Store} {Q : Post} {t} {it} {c} {elt} : wpE S (.compIf t it c elt) ρ σ Q = (wpE S it ρ σ fun vi σ₁ => ∃ items ok, Src σ₁ vi items ok ∧ items.length ≤ 1000000 ∧
      compW ok (fun v σ Q => ∃ ρ', bindT t v ρ = some ρ' ∧ wpE S c ρ' σ (asBool Q)) (fun v σ Q => ∃ ρ', bindT t v ρ = some ρ' ∧ wpE S elt ρ' σ Q) items [] σ₁ fun acc σ₂ => fresh σ₂ (.list true acc) Q) := rfl
theorem we_call {S : Spec} {ρ : Loc} {σ : Store} {Q : Post} {f} {args} : wpE S (.call f args) ρ σ Q = (wpEs S args ρ σ fun vs σ₁ => S f vs σ₁ Q) := rfl
theorem we_len {S : Spec} {ρ : Loc} {σ : Store} {Q : Post} {a} : wpE S (.len a) ρ σ Q = (wpE S a ρ σ fun va σ₁ => ∃ n, lenV σ₁ va = some n ∧ n ≤ 1000000 ∧ Q (.int n) σ₁) := rfl
theorem we_listOf {S : Spec} {ρ : Loc} {σ : Store} {Q : Post} {a} : wpE S (.listOf a) ρ σ Q = (wpE S a ρ σ fun va σ₁ => ∃ items, seqOf σ₁ va = some items ∧ items.length ≤ 1000000 ∧ fresh σ₁ (.list true items) Q) := rfl
theorem we_dictOf {S : Spec} {ρ : Loc} {σ : Store} {Q : Post} {a} : wpE S (.dictOf a) ρ σ Q = (wpE S a ρ σ fun va σ₁ => ∃ p m es, va = .ref p ∧ σ₁ p = some (.ds m es) ∧ es.length ≤ 1000000 ∧ fresh σ₁ (.ds true es) Q) := rfl
theorem we_tupleOf {S : Spec} {ρ : Loc} {σ : Store} {Q : Post} {a} : wpE S (.tupleOf a) ρ σ Q = (wpE S a ρ σ fun va σ₁ => ∃ p m l, va = .ref p ∧ σ₁ p = some (.list m l) ∧ l.length ≤ 1000000 ∧ Q (.tup l) σ₁) := rfl
theorem we_isi {S : Spec} {ρ : Loc} {σ : Store} {Q : Post} {a} {t} : wpE S (.isi a t) ρ σ Q = (wpE S a ρ σ fun va σ₁ => ∃ r, tyV σ₁ va t = some r ∧ Q (.bool r) σ₁) := rfl
theorem we_max2 {S : Spec} {ρ : Loc} {σ : Store} {Q : Post} {a} {b} : wpE S (.max2 a b) ρ σ Q = (wpE S a ρ σ fun va σ₁ => wpE S b ρ σ₁ fun vb σ₂ => ∃ i j, va = .int i ∧ vb = .int j ∧ Q (.int (max i j)) σ₂) := rfl
theorem we_minOf {S : Spec} {ρ : Loc} {σ : Store} {Q : Post} {a} : wpE S (.minOf a) ρ σ Q = (wpE S a ρ σ fun va σ₁ => ∃ p m l i r, va = .ref p ∧ σ₁ p = some (.list m l) ∧ l.length ≤ 1000000 ∧ intsOf l = some (i :: r) ∧ Q (.int (r.foldl min i)) σ₁) := rfl
theorem we_sorted {S : Spec} {ρ : Loc} {σ : Store} {Q : Post} {a} : wpE S (.sorted a) ρ σ Q = (wpE S a ρ σ fun va σ₁ => ∃ p m l is, va = .ref p ∧ σ₁ p = some (.list m l) ∧ l.length < 64 ∧ intsOf l = some is ∧ ∀ is' : List Int, is'.Perm is → is'.Pairwise (· ≤ ·) → fresh σ₁ (.list true (is'.map .int)) Q) := rfl
theorem we_rng1 {S : Spec} {ρ : Loc} {σ : Store} {Q : Post} {b} : wpE S (.rng1 b) ρ σ Q = (wpE S b ρ σ fun vb σ₁ => ∃ j, vb = .int j ∧ Q (.rng 0 j) σ₁) := rfl
theorem we_rng2 {S : Spec} {ρ : Loc} {σ : Store} {Q : Post} {a} {b} : wpE S (.rng2 a b) ρ σ Q = (wpE S a ρ σ fun va σ₁ => wpE S b ρ σ₁ fun vb σ₂ => ∃ i j, va = .int i ∧ vb = .int j ∧ Q (.rng i j) σ₂) := rfl
theorem we_append {S : Spec} {ρ : Loc} {σ : Store} {Q : Post} {o} {a} : wpE S (.append o a) ρ σ Q = (wpE S o ρ σ fun vo σ₁ => ∃ p l₀, vo = .ref p ∧ σ₁ p = some (.list true l₀) ∧ wpE S a ρ σ₁ fun va σ₂ => ∃ l, σ₂ p = some (.list true l) ∧ l.length ≤ 1000000 ∧ Q .none (σ₂.set p (.list true (l ++ [va])))) := rfl
theorem we_insert0 {S : Spec} {ρ : Loc} {σ : Store} {Q : Post} {o} {a} : wpE S (.insert0 o a) ρ σ Q = (wpE S o ρ σ fun vo σ₁ => ∃ p l₀, vo = .ref p ∧ σ₁ p = some (.list true l₀) ∧ wpE S a ρ σ₁ fun va σ₂ => ∃ l, σ₂ p = some (.list true l) ∧ l.length ≤ 1000000 ∧ Q .none (σ₂.set p (.list true (va :: l)))) := rfl
theorem we_pop {S : Spec} {ρ : Loc} {σ : Store} {Q : Post} {o} : wpE S (.pop o) ρ σ Q = (wpE S o ρ σ fun vo σ₁ => ∃ p l v, vo = .ref p ∧ σ₁ p = some (.list true (l ++ [v])) ∧ l.length ≤ 1000000 ∧ Q v (σ₁.set p (.list true l))) := rfl
theorem we_get1 {S : Spec} {ρ : Loc} {σ : Store} {Q : Post} {o} {k} : wpE S (.get1 o k) ρ σ Q = (wpE S o ρ σ fun vo σ₁ => ∃ p m es, vo = .ref p ∧ σ₁ p = some (.ds m es) ∧ wpE S k ρ σ₁ fun vk σ₂ => ∃ m' es' x, vk = .str x ∧ σ₂ p = some (.ds m' es') ∧ Q ((look es' x).getD .none) σ₂) := rfl
theorem we_get2 {S : Spec} {ρ : Loc} {σ : Store} {Q : Post} {o} {k} {d} : wpE S (.get2 o k d) ρ σ Q = (wpE S o ρ σ fun vo σ₁ => ∃ p m es, vo = .ref p ∧ σ₁ p = some (.ds m es) ∧ wpE S k ρ σ₁ fun vk σ₂ => wpE S d ρ σ₂ fun vd σ₃ => ∃ m' es' x, vk = .str x ∧ σ₃ p = some (.ds m' es') ∧ Q ((look es' x).getD vd) σ₃) := rfl
theorem we_nil {S : Spec} {ρ : Loc} {σ : Store} {Q : List V → Store → Prop} : wpEs S [] ρ σ Q = Q [] σ := rfl
theorem we_cons {S : Spec} {ρ : Loc} {σ : Store} {Q : List V → Store → Prop} {e : X} {r : List X} : wpEs S (e :: r) ρ σ Q = (wpE S e ρ σ fun v σ₁ => wpEs S r ρ σ₁ fun vs σ₂ => Q (v :: vs) σ₂) := rfl
theorem ws_expr {S : Spec} {ρ : Loc} {σ : Store} {Q : FPost} {e} : wpS S (.expr e) ρ σ Q = (wpE S e ρ σ fun v σ₁ => match v with | .none => Q .next ρ σ₁ | .bool _ => Q .next ρ σ₁ | _ => False) := rfl
theorem ws_asg {S : Spec} {ρ : Loc} {σ : Store} {Q : FPost} {t} {e} : wpS S (.asg t e) ρ σ Q = (wpE S e ρ σ fun v σ₁ => ∃ ρ', bindT t v ρ = some ρ' ∧ Q .next ρ' σ₁) := rfl
theorem ws_setItem {S : Spec} {ρ : Loc} {σ : Store} {Q : FPost} {o} {i} {e} : wpS S (.setItem o i e) ρ σ Q = (wpE S e ρ σ fun v σ₁ => wpE S o ρ σ₁ fun vo σ₂ => wpE S i ρ σ₂ fun vi σ₃ => setV vo vi v σ₃ fun σ₄ => Q .next ρ σ₄) := rfl
theorem ws_ret {S : Spec} {ρ : Loc} {σ : Store} {Q : FPost} {e} : wpS S (.ret e) ρ σ Q = (wpE S e ρ σ fun v σ₁ => Q (.ret v) ρ σ₁) := rfl
theorem ws_ite {S : Spec} {ρ : Loc} {σ : Store} {Q : FPost} {c} {a} {b} : wpS S (.ite c a b) ρ σ Q = (wpE S c ρ σ (asBool fun t σ₁ => if t = true then wpSs S a ρ σ₁ Q else wpSs S b ρ σ₁ Q)) := rfl
theorem ws_for {S : Spec} {ρ : Loc} {σ : Store} {Q : FPost} {t} {it} {body} : wpS S (.for t it body) ρ σ Q = (wpE S it ρ σ fun vi σ₁ =>
      if isDict σ₁ vi = true then forD (fun keys σ' Q' => forW (fun _ => True) (fun v ρ σ Q => ∃ ρ', bindT t v ρ = some ρ' ∧ wpSs S body ρ' σ Q) keys ρ σ' Q') vi σ₁ Q
      else ∃ items ok, Src σ₁ vi items ok ∧ forW ok (fun v ρ σ Q => ∃ ρ', bindT t v ρ = some ρ' ∧ wpSs S body ρ' σ Q) items ρ σ₁ Q) := rfl
theorem ws_forEnum {S : Spec} {ρ : Loc} {σ : Store} {Q : FPost} {t} {it} {body} : wpS S (.forEnum t it body) ρ σ Q = (wpE S it ρ σ fun vi σ₁ => ∃ p m l, vi = .ref p ∧ σ₁ p = some (.list m l) ∧ l.length ≤ 1000000 ∧
      forW (fun σ' => ∃ m', σ' p = some (.list m' l)) (fun v ρ σ Q => ∃ ρ', bindT t v ρ = some ρ' ∧ wpSs S body ρ' σ Q) (l.zipIdx.map fun x => .tup [.int x.2, x.1]) ρ σ₁ Q) := rfl
theorem ws_while {S : Spec} {ρ : Loc} {σ : Store} {Q : FPost} {c} {body} : wpS S (.while c body) ρ σ Q = (∃ n, whileW (fun ρ σ Q => wpE S c ρ σ (asBool Q)) (fun ρ σ Q => wpSs S body ρ σ Q) n ρ σ Q) := rfl
theorem ws_nil {S : Spec} {ρ : Loc} {σ : Store} {Q : FPost} : wpSs S [] ρ σ Q = Q .next ρ σ := rfl
theorem ws_cons {S : Spec} {ρ : Loc} {σ : Store} {Q : FPost} {s : Mine.S} {r : List Mine.S} : wpSs S (s :: r) ρ σ Q = (wpS S s ρ σ fun f ρ' σ' => match f with | .next => wpSs S r ρ' σ' Q | .ret v => Q (.ret v) ρ' σ') := rfl
end Mine

namespace Mine
open PySem

mutual
noncomputable def VRel (h : Heap) : V → Value → Prop
  | .none, v => v = .none
  | .bool b, v => v = .bool b
  | .int i, v => ∃ t, v = .int i t
  | .str x, v => ∃ t, v = .str x t
  | .tup l, v => ∃ a vs n, v = .ref a ∧ h.get? a = some { cls := .type "tuple", data := .seq vs n } ∧ vs.size ≤ 16777216 ∧ VRels h l vs.toList
  | .rng i j, v => ∃ a t u w, v = .ref a ∧ IsRange h a i j 1 t u w
  | .ref a, v => v = .ref a
noncomputable def VRels (h : Heap) : List V → List Value → Prop
  | [], vs => vs = []
  | x :: l, vs => ∃ v r, vs = v :: r ∧ VRel h x v ∧ VRels h l r
end

noncomputable def tupLike (o : Obj) : Prop := (o.cls = .type "tuple" ∨ o.cls = .type "range") ∧ (∀ es ep, o.data ≠ .dict es ep) ∧ ∀ v, o.data ≠ .cell v
mutual
theorem VRel.keep {h h' : Heap} (hk : ∀ a o, h.get? a = some o → tupLike o → h'.get? a = some o) : ∀ {x : V} {v : Value}, VRel h x v → VRel h' x v
  | .none, _, e => by simpa only [VRel] using e
  | .bool _, _, e => by simpa only [VRel] using e
  | .int _, _, e => by simpa only [VRel] using e
  | .str _, _, e => by simpa only [VRel] using e
  | .ref _, _, e => by simpa only [VRel] using e
  | .rng _ _, _, e => by
    simp only [VRel] at e ⊢
    obtain ⟨a, t, u, w, e, g⟩ := e
    exact ⟨a, t, u, w, e, hk _ _ g (by refine ⟨.inr rfl, ?_, ?_⟩ <;> simp)⟩
  | .tup _, _, e => by
    simp only [VRel] at e ⊢
    obtain ⟨a, vs, n, e, g, z, r⟩ := e
    exact ⟨a, vs, n, e, hk _ _ g (by refine ⟨.inl rfl, ?_, ?_⟩ <;> simp), z, VRels.keep hk r⟩
theorem VRels.keep {h h' : Heap} (hk : ∀ a o, h.get? a = some o → tupLike o → h'.get? a = some o) : ∀ {l : List V} {vs : List Value}, VRels h l vs → VRels h' l vs
  | [], _, e => by simpa only [VRels] using e
  | _ :: _, _, e => by
    simp only [VRels] at e ⊢
    obtain ⟨v, r, e, a, b⟩ := e
    exact ⟨v, r, e, VRel.keep hk a, VRels.keep hk b⟩
end

theorem VRels.length {h : Heap} : ∀ {l : List V} {vs : List Value}, VRels h l vs → vs.length = l.length
  | [], _, e => by simp only [VRels] at e; subst e; rfl
  | _ :: _, _, e => by
    simp only [VRels] at e
    obtain ⟨v, r, rfl, _, b⟩ := e
    simp [VRels.length b]
theorem VRels.get {h : Heap} : ∀ {l : List V} {vs : List Value}, VRels h l vs → ∀ {i : Nat} {x : V}, l[i]? = some x → ∃ v, vs[i]? = some v ∧ VRel h x v
  | [], _, _, _, _, q => by simp at q
  | y :: l, _, e, i, x, q => by
    simp only [VRels] at e
    obtain ⟨v, r, rfl, a, b⟩ := e
    cases i with
    | zero => simp at q; subst q; exact ⟨v, rfl, a⟩
    | succ i => simp at q ⊢; exact VRels.get b q
theorem VRels.of_get {h : Heap} : ∀ {l : List V} {vs : List Value}, vs.length = l.length → (∀ (i : Nat) x v, l[i]? = some x → vs[i]? = some v → VRel h x v) → VRels h l vs
  | [], [], _, _ => by simp only [VRels]
  | [], _ :: _, e, _ => by simp at e
  | _ :: _, [], e, _ => by simp at e
  | x :: l, v :: vs, e, q => by
    simp only [VRels]
    exact ⟨v, vs, rfl, q 0 x v rfl rfl, VRels.of_get (by simpa using e) fun i x v a b => q (i + 1) x v (by simpa using a) (by simpa using b)⟩
theorem VRels.append {h : Heap} : ∀ {l : List V} {vs : List Value} {m : List V} {us : List Value}, VRels h l vs → VRels h m us → VRels h (l ++ m) (vs ++ us)
  | [], _, _, _, e, q => by simp only [VRels] at e; subst e; exact q
  | _ :: _, _, _, _, e, q => by
    simp only [VRels] at e
    obtain ⟨v, r, rfl, a, b⟩ := e
    exact ⟨v, r ++ _, rfl, a, VRels.append b q⟩
theorem VRels.one {h : Heap} {x : V} {v : Value} (e : VRel h x v) : VRels h [x] [v] := ⟨v, [], rfl, e, rfl⟩
theorem VRels.cons {h : Heap} {x : V} {v : Value} {l : List V} {vs : List Value} (e : VRel h x v) (r : VRels h l vs) : VRels h (x :: l) (v :: vs) := ⟨v, vs, rfl, e, r⟩
theorem VRels.nil {h : Heap} : VRels h [] [] := rfl
theorem dictOf_at {prog : Program} {w : World} {K : Type} [DecidableEq K] {knd : KeyKind prog w K} {h h' : Heap} {a : Addr} {kvs : List (K × Value)} (x : h.DictOf knd a kvs) (e : ∀ o, h.get? a = some o → h'.get? a = some o) : h'.DictOf knd a kvs :=
  let ⟨o, es, ep, ho, r⟩ := x; ⟨o, es, ep, e _ ho, r⟩
section
variable (prog : Program) (w : World)

noncomputable def DRel {K : Type} [DecidableEq K] (knd : KeyKind prog w K) (h : Heap) (a : Addr) (es : List (K × V)) : Prop :=
  ∃ kvs : List (K × Value), h.DictOf knd a kvs ∧ kvs.map (·.1) = es.map (·.1) ∧ VRels h (es.map (·.2)) (kvs.map (·.2))
noncomputable def ORel (h : Heap) (a : Addr) : O → Prop
  | .list m l => ∃ vs : Array Value, (h.IsList a vs ∧ (m = true → h.PlainList a vs)) ∧ vs.size ≤ 16777216 ∧ VRels h l vs.toList
  | .ds _ es => DRel prog w (strKind prog w) h a es
  | .di _ es => DRel prog w (intKind prog w) h a es
end

noncomputable def O.isD : O → Bool
  | .list .. => false
  | _ => true
section
variable {prog : Program} {w : World}

theorem ORel.keep {h h' : Heap} {a : Addr} {o : O} (e : ORel prog w h a o) (ha : ∀ b, h.get? a = some b → h'.get? a = some b) (hk : ∀ a o, h.get? a = some o → tupLike o → h'.get? a = some o) : ORel prog w h' a o := by
  cases o with
  | list m l => exact let ⟨vs, p, z, r⟩ := e; ⟨vs, ⟨let ⟨o, ho, q⟩ := p.1; ⟨o, ha _ ho, q⟩, fun hm => (p.2 hm).at ha⟩, z, r.keep hk⟩
  | ds m es => exact let ⟨kvs, p, q, r⟩ := e; ⟨kvs, dictOf_at p ha, q, r.keep hk⟩
  | di m es => exact let ⟨kvs, p, q, r⟩ := e; ⟨kvs, dictOf_at p ha, q, r.keep hk⟩
theorem ORel.get {h : Heap} {a : Addr} {o : O} (e : ORel prog w h a o) : ∃ b, h.get? a = some b ∧ ¬ tupLike b ∧ (b.cls = .type "list" ∨ b.cls = .type "dict") := by
  cases o with
  | list m l => obtain ⟨vs, ⟨⟨o, p, hc, _⟩, _⟩, r⟩ := e; exact ⟨_, p, by unfold tupLike; simp [hc], .inl hc⟩
  | ds m es => obtain ⟨kvs, ⟨o, es, ep, ho, hx, r⟩, _⟩ := e; exact ⟨_, ho, by unfold tupLike; simp [hx.1], .inr hx.1⟩
  | di m es => obtain ⟨kvs, ⟨o, es, ep, ho, hx, r⟩, _⟩ := e; exact ⟨_, ho, by unfold tupLike; simp [hx.1], .inr hx.1⟩
theorem ORel.mut {h : Heap} {a : Addr} {o : O} (e : ORel prog w h a o) (hd : o.isD = true) : ORel prog w h a o.frz := by
  cases o with
  | list => cases hd
  | ds => exact e
  | di => exact e
theorem ORel.unfrz {h : Heap} {a : Addr} {o : O} (e : ORel prog w h a o.frz) (hd : o.isD = true) : ORel prog w h a o := by
  cases o with
  | list => cases hd
  | ds => exact e
  | di => exact e
end

/-- what the call has made of the state that it began with -/
structure Core (prog : Program) (w : World) (B : Shared) (σ : Store) (s : Shared) : Prop where
  same : ∃ h tk, s = { B with heap := h, toks := tk }
  base : ∀ b o, B.heap.get? b = some o → s.heap.get? b = some o
  objs : ∀ a o, σ a = some o → ORel prog w s.heap a o
  new : ∀ a o, σ a = some o → (o.mut = true ∨ o.isD = true) → B.heap.get? a = none
  dic : ∀ a o, σ a = some o → o.isD = true → (a == sysModules) = false
  low : ∃ b o, sysModules < b ∧ B.heap.get? b = some o
noncomputable def Own (env : Env) (a : Addr) : Prop := a = env.locals ∨ ∃ x, env.cells.lookup x = some a
structure FrameOK (B : Shared) (vars : List Str) (env : Env) (ρ : Loc) (σ : Store) (h : Heap) : Prop where
  ns : ∃ m, h.Ns env.locals m ∧ ∀ (i : Nat) x v, vars[i]? = some x → ρ i = some v → env.kindOf x = some .local → ∃ u, m x = some u ∧ VRel h v u
  nsObj : ∀ o, h.get? env.locals = some o → ¬ tupLike o
  cell : ∀ (i : Nat) x v, vars[i]? = some x → ρ i = some v → (env.kindOf x = some .cell ∨ env.kindOf x = some .free) → ∃ c u, env.cells.lookup x = some c ∧ h.IsCell c (some u) ∧ VRel h v u
  cells : ∀ x c, env.cells.lookup x = some c → (∃ u, h.IsCell c u) ∧ c ≠ env.locals ∧ ∀ o, h.get? c = some o → ¬ tupLike o
  inj : ∀ x y c, env.cells.lookup x = some c → env.cells.lookup y = some c → x = y
  has : ∀ x, (env.kindOf x = some .cell ∨ env.kindOf x = some .free) → ∃ c, env.cells.lookup x = some c
  own : ∀ a, Own env a → σ a = none ∧ B.heap.get? a = none
  kind : env.scope.kind = .function
  glob : env.globals = mainGlobals
  bltn : env.builtins = builtinsNs
/-- not to be changed -/
noncomputable def Sh (σ : Store) (a : Addr) : Prop := ∀ x, σ a = some x → x.mut = false
structure Step (own : Addr → Prop) (σ : Store) (s : Shared) (σ' : Store) (s' : Shared) : Prop where
  keep : ∀ a o, s.heap.get? a = some o → Sh σ a → ¬ own a → s'.heap.get? a = some o
  no : ∀ a o, s.heap.get? a = some o → σ a = none → ¬ own a → σ' a = none
  shut : ∀ a o, s.heap.get? a = some o → Sh σ a → ¬ own a → Sh σ' a
theorem Sh.of_none {σ : Store} {a : Addr} (h : σ a = none) : Sh σ a := fun x e => by rw [h] at e; cases e
theorem Step.refl {own : Addr → Prop} {σ : Store} {s : Shared} : Step own σ s σ s := ⟨fun _ _ e _ _ => e, fun _ _ _ e _ => e, fun _ _ _ e _ => e⟩
theorem Step.trans {own : Addr → Prop} {σ₁ σ₂ σ₃ : Store} {s₁ s₂ s₃ : Shared} (x : Step own σ₁ s₁ σ₂ s₂) (y : Step own σ₂ s₂ σ₃ s₃) : Step own σ₁ s₁ σ₃ s₃ where
  keep a o e hm ho := y.keep a o (x.keep a o e hm ho) (x.shut a o e hm ho) ho
  no a o e hm ho := y.no a o (x.keep a o e (.of_none hm) ho) (x.no a o e hm ho) ho
  shut a o e hm ho := y.shut a o (x.keep a o e hm ho) (x.shut a o e hm ho) ho
/-- what did not exist at the start need not be told -/
theorem Step.less {own own' : Addr → Prop} {σ σ' : Store} {s s' : Shared} (x : Step own σ s σ' s') (h : ∀ a o, s.heap.get? a = some o → own a → own' a) : Step own' σ s σ' s' where
  keep a o e hm ho := x.keep a o e hm fun q => ho (h a o e q)
  no a o e hm ho := x.no a o e hm fun q => ho (h a o e q)
  shut a o e hm ho := x.shut a o e hm fun q => ho (h a o e q)
theorem Step.more {own own' : Addr → Prop} {σ σ' : Store} {s s' : Shared} (x : Step own σ s σ' s') (h : ∀ a, own a → own' a) : Step own' σ s σ' s' := x.less fun a _ _ q => h a q
theorem Step.fresh {own : Addr → Prop} {σ σ' : Store} {s s' : Shared} (x : Step (fun _ => False) σ s σ' s') : Step own σ s σ' s' := x.more fun _ q => q.elim
section
variable {prog : Program} {w : World} {B : Shared} {σ σ' : Store} {s s' : Shared} {own : Addr → Prop}

theorem Core.none_of_tup (C : Core prog w B σ s) {a : Addr} {o : Obj} (e : s.heap.get? a = some o) (ht : tupLike o) : σ a = none := by
  cases q : σ a with
  | none => rfl
  | some x =>
    obtain ⟨b, hb, hn, _⟩ := (C.objs a x q).get
    rw [hb] at e; cases e; exact absurd ht hn
theorem Step.tups (x : Step own σ s σ' s') (C : Core prog w B σ s) (ho : ∀ a o, own a → s.heap.get? a = some o → ¬ tupLike o) : ∀ a o, s.heap.get? a = some o → tupLike o → s'.heap.get? a = some o :=
  fun a o e ht => x.keep a o e (.of_none (C.none_of_tup e ht)) fun q => ho a o q e ht
theorem Core.heapEq (C : Core prog w B σ s) (h : Heap) (tk : Nat) : ∃ h' tk', ({ s with heap := h, toks := tk } : Shared) = { B with heap := h', toks := tk' } := by
  obtain ⟨h₁, t₁, rfl⟩ := C.same; exact ⟨h, tk, rfl⟩
theorem Core.toks (C : Core prog w B σ s) (tk : Nat) : Core prog w B σ { s with toks := tk } := ⟨C.heapEq _ _, C.base, C.objs, C.new, C.dic, C.low⟩
/-- loose things turn -/
theorem Core.move (C : Core prog w B σ s) (W : Addr → Prop) {h' : Heap} (tk : Nat) (hk : ∀ b o, ¬ W b → s.heap.get? b = some o → h'.get? b = some o)
    (hW : ∀ a o, W a → s.heap.get? a = some o → σ a = none ∧ B.heap.get? a = none ∧ ¬ tupLike o) : Core prog w B σ { s with heap := h', toks := tk } where
  same := C.heapEq _ _
  base b o e := by
    by_cases q : W b
    · have := (hW b o q (C.base b o e)).2.1; rw [this] at e; cases e
    · exact hk b o q (C.base b o e)
  objs a o e := by
    refine (C.objs a o e).keep (fun b hb => ?_) fun c oc hc ht => ?_
    · by_cases q : W a
      · have := (hW a b q hb).1; rw [this] at e; cases e
      · exact hk a b q hb
    · by_cases q : W c
      · exact absurd ht (hW c oc q hc).2.2
      · exact hk c oc q hc
  new := C.new
  dic := C.dic
  low := C.low
theorem Core.keeps (C : Core prog w B σ s) {h' : Heap} (tk : Nat) (hk : ∀ b o, s.heap.get? b = some o → h'.get? b = some o) : Core prog w B σ { s with heap := h', toks := tk } :=
  C.move (fun _ => False) tk (fun b o _ e => hk b o e) fun _ _ q => q.elim
theorem Core.free (C : Core prog w B σ s) {a : Addr} (h : s.heap.get? a = none) : σ a = none ∧ B.heap.get? a = none := by
  constructor
  · cases q : σ a with
    | none => rfl
    | some x => obtain ⟨b, hb, _⟩ := (C.objs a x q).get; rw [hb] at h; cases h
  · cases q : B.heap.get? a with
    | none => rfl
    | some x => rw [C.base a x q] at h; cases h
theorem Core.size (C : Core prog w B σ s) : (s.heap.objs.size == sysModules) = false := by
  obtain ⟨b, o, h1, h2⟩ := C.low
  have := Heap.lt_size (C.base b o h2)
  exact beq_eq_false_iff_ne.mpr (Nat.ne_of_gt (Nat.lt_trans h1 this))
/-- an object turns -/
theorem Core.set (C : Core prog w B σ s) {p : Addr} {o o' : O} {h' : Heap} (tk : Nat) (hp : σ p = some o) (hm : o.mut = true) (hk : ∀ b x, b ≠ p → s.heap.get? b = some x → h'.get? b = some x)
    (hr : ORel prog w h' p o') (hdd : o'.isD = true → (p == sysModules) = false := by intro h; cases h) : Core prog w B (σ.set p o') { s with heap := h', toks := tk } where
  same := C.heapEq _ _
  base b x e := hk b x (fun q => by rw [q, C.new p o hp (.inl hm)] at e; cases e) (C.base b x e)
  objs a x e := by
    by_cases q : a = p
    · subst q; simp only [Store.set, if_true] at e; cases e; exact hr
    · simp only [Store.set, if_neg q] at e
      refine (C.objs a x e).keep (fun b hb => hk a b q hb) fun c oc hc ht => hk c oc (fun z => ?_) hc
      subst z; rw [C.none_of_tup hc ht] at hp; cases hp
  new a x e hx := by
    by_cases q : a = p
    · subst q; exact C.new a o hp (.inl hm)
    · simp only [Store.set, if_neg q] at e; exact C.new a x e hx
  dic a x e hx := by
    by_cases q : a = p
    · subst q; simp only [Store.set, if_true] at e; cases e; exact hdd hx
    · simp only [Store.set, if_neg q] at e; exact C.dic a x e hx
  low := C.low
theorem Core.add (C : Core prog w B σ s) {p : Addr} {o' : O} {h' : Heap} (tk : Nat) (hp : s.heap.get? p = none) (hk : ∀ b x, s.heap.get? b = some x → h'.get? b = some x)
    (hr : ORel prog w h' p o') (hdd : o'.isD = true → (p == sysModules) = false := by intro h; cases h) : Core prog w B (σ.set p o') { s with heap := h', toks := tk } where
  same := C.heapEq _ _
  base b x e := hk b x (C.base b x e)
  objs a x e := by
    by_cases q : a = p
    · subst q; simp only [Store.set, if_true] at e; cases e; exact hr
    · simp only [Store.set, if_neg q] at e
      exact (C.objs a x e).keep (fun b hb => hk a b hb) fun c oc hc _ => hk c oc hc
  new a x e hx := by
    by_cases q : a = p
    · subst q; exact (C.free hp).2
    · simp only [Store.set, if_neg q] at e; exact C.new a x e hx
  dic a x e hx := by
    by_cases q : a = p
    · subst q; simp only [Store.set, if_true] at e; cases e; exact hdd hx
    · simp only [Store.set, if_neg q] at e; exact C.dic a x e hx
  low := C.low
/-- less may be known -/
theorem Core.less (C : Core prog w B σ s) (h : ∀ a o, σ' a = some o → σ a = some o) : Core prog w B σ' s := ⟨C.same, C.base, fun a o e => C.objs a o (h a o e), fun a o e => C.new a o (h a o e), fun a o e => C.dic a o (h a o e), C.low⟩
theorem Step.keeps {h' : Heap} {tk : Nat} (hk : ∀ b o, s.heap.get? b = some o → h'.get? b = some o) : Step own σ s σ { s with heap := h', toks := tk } :=
  ⟨fun a o e _ _ => hk a o e, fun _ _ _ e _ => e, fun _ _ _ e _ => e⟩
theorem Step.move {h' : Heap} {tk : Nat} (hk : ∀ b o, ¬ own b → s.heap.get? b = some o → h'.get? b = some o) : Step own σ s σ { s with heap := h', toks := tk } :=
  ⟨fun a o e _ q => hk a o q e, fun _ _ _ e _ => e, fun _ _ _ e _ => e⟩
theorem Step.set {p : Addr} {o o' : O} {h' : Heap} {tk : Nat} (hp : σ p = some o) (hm : o.mut = true) (hk : ∀ b x, b ≠ p → s.heap.get? b = some x → h'.get? b = some x) : Step own σ s (σ.set p o') { s with heap := h', toks := tk } where
  keep a x e hs _ := hk a x (fun q => by subst q; have := hs o hp; rw [hm] at this; cases this) e
  no a x e hs _ := by
    have q : a ≠ p := fun q => by subst q; rw [hs] at hp; cases hp
    simp only [Store.set, if_neg q]; exact hs
  shut a x e hs _ := by
    have q : a ≠ p := fun q => by subst q; have := hs o hp; rw [hm] at this; cases this
    simp only [Sh, Store.set, if_neg q]; exact hs
theorem Step.add {p : Addr} {o' : O} {h' : Heap} {tk : Nat} (hp : s.heap.get? p = none) (hk : ∀ b x, s.heap.get? b = some x → h'.get? b = some x) : Step own σ s (σ.set p o') { s with heap := h', toks := tk } where
  keep a x e _ _ := hk a x e
  no a x e hs _ := by
    have q : a ≠ p := fun q => by subst q; rw [hp] at e; cases e
    simp only [Store.set, if_neg q]; exact hs
  shut a x e hs _ := by
    have q : a ≠ p := fun q => by subst q; rw [hp] at e; cases e
    simp only [Sh, Store.set, if_neg q]; exact hs
end

structure Sim (prog : Program) (w : World) (B : Shared) (vars : List Str) (env : Env) (ρ : Loc) (σ : Store) (s : Shared) : Prop where
  core : Core prog w B σ s
  frame : FrameOK B vars env ρ σ s.heap
section
variable {prog : Program} {w : World} {B : Shared} {vars : List Str} {env : Env} {ρ : Loc} {σ σ' : Store} {s s' : Shared} {own : Addr → Prop}

theorem FrameOK.notTup {h : Heap} (F : FrameOK B vars env ρ σ h) : ∀ a o, Own env a → h.get? a = some o → ¬ tupLike o := fun a o ha e => by
  rcases ha with rfl | ⟨x, hx⟩
  · exact F.nsObj o e
  · exact (F.cells x a hx).2.2 o e
theorem VRel.step {x : V} {v : Value} (e : VRel s.heap x v) (S : Sim prog w B vars env ρ σ s) (T : Step (Own env) σ s σ' s') : VRel s'.heap x v := e.keep (T.tups S.core S.frame.notTup)
theorem VRels.step {x : List V} {v : List Value} (e : VRels s.heap x v) (S : Sim prog w B vars env ρ σ s) (T : Step (Own env) σ s σ' s') : VRels s'.heap x v := e.keep (T.tups S.core S.frame.notTup)
/-- the frame stands where its own things stand -/
theorem FrameOK.kept {h h' : Heap} (F : FrameOK B vars env ρ σ h) (hk : ∀ a o, Own env a → h.get? a = some o → h'.get? a = some o) (ht : ∀ a o, h.get? a = some o → tupLike o → h'.get? a = some o)
    (hs : ∀ a, Own env a → σ' a = none) : FrameOK B vars env ρ σ' h' where
  ns := by
    obtain ⟨m, hn, hm⟩ := F.ns
    obtain ⟨o, es, ep, ho, r⟩ := hn
    refine ⟨m, ⟨o, es, ep, hk _ _ (.inl rfl) ho, r⟩, fun i x v h1 h2 h3 => ?_⟩
    obtain ⟨u, hu, hv⟩ := hm i x v h1 h2 h3
    exact ⟨u, hu, hv.keep ht⟩
  nsObj o e := by
    obtain ⟨m, hn, hm⟩ := F.ns
    obtain ⟨o', es, ep, ho, r⟩ := hn
    rw [hk _ _ (.inl rfl) ho] at e; cases e; exact F.nsObj _ ho
  cell i x v h1 h2 h3 := by
    obtain ⟨c, u, hc, ⟨o, ho, hd⟩, hv⟩ := F.cell i x v h1 h2 h3
    exact ⟨c, u, hc, ⟨o, hk _ _ (.inr ⟨x, hc⟩) ho, hd⟩, hv.keep ht⟩
  cells x c hc := by
    obtain ⟨⟨u, o, ho, hd⟩, h2, h3⟩ := F.cells x c hc
    refine ⟨⟨u, o, hk _ _ (.inr ⟨x, hc⟩) ho, hd⟩, h2, fun o' e => ?_⟩
    rw [hk _ _ (.inr ⟨x, hc⟩) ho] at e; cases e; exact h3 _ ho
  inj := F.inj
  has := F.has
  own a ha := ⟨hs a ha, (F.own a ha).2⟩
  kind := F.kind
  glob := F.glob
  bltn := F.bltn
theorem FrameOK.exists {h : Heap} (F : FrameOK B vars env ρ σ h) {a : Addr} (ha : Own env a) : ∃ o, h.get? a = some o := by
  rcases ha with rfl | ⟨x, hx⟩
  · obtain ⟨m, ⟨o, es, ep, ho, r⟩, _⟩ := F.ns; exact ⟨o, ho⟩
  · obtain ⟨⟨u, o, ho, hd⟩, _⟩ := F.cells x a hx; exact ⟨o, ho⟩
/-- behind a call: the callee's own things are others -/
theorem Sim.after (S : Sim prog w B vars env ρ σ s) (T : Step own σ s σ' s') (C : Core prog w B σ' s') (ho : ∀ a o, own a → s.heap.get? a = some o → False) : Sim prog w B vars env ρ σ' s' ∧ Step (Own env) σ s σ' s' := by
  have T' : Step (fun _ => False) σ s σ' s' := T.less fun a o e q => ho a o q e
  refine ⟨⟨C, S.frame.kept (fun a o ha e => ?_) (T'.tups S.core fun _ _ q => q.elim) fun a ha => ?_⟩, T'.fresh⟩
  · exact T'.keep a o e (.of_none (S.frame.own a ha).1) fun q => q
  · obtain ⟨o, e⟩ := S.frame.exists ha
    exact T'.no a o e (S.frame.own a ha).1 fun q => q
theorem Sim.toks (S : Sim prog w B vars env ρ σ s) (tk : Nat) : Sim prog w B vars env ρ σ { s with toks := tk } := ⟨S.core.toks tk, S.frame⟩
theorem Step.toks {tk : Nat} : Step own σ s σ { s with toks := tk } := ⟨fun _ _ e _ _ => e, fun _ _ _ e _ => e, fun _ _ _ e _ => e⟩
theorem Sim.keeps (S : Sim prog w B vars env ρ σ s) {h' : Heap} (tk : Nat) (hk : ∀ b o, s.heap.get? b = some o → h'.get? b = some o) : Sim prog w B vars env ρ σ { s with heap := h', toks := tk } ∧ Step (Own env) σ s σ { s with heap := h', toks := tk } :=
  S.after (own := fun _ => False) (Step.keeps hk) (S.core.keeps tk hk) fun _ _ q => q.elim
theorem Sim.set (S : Sim prog w B vars env ρ σ s) {p : Addr} {o o' : O} {h' : Heap} (tk : Nat) (hp : σ p = some o) (hm : o.mut = true) (hk : ∀ b x, b ≠ p → s.heap.get? b = some x → h'.get? b = some x)
    (hr : ORel prog w h' p o') (hdd : o'.isD = true → (p == sysModules) = false := by intro h; cases h) : Sim prog w B vars env ρ (σ.set p o') { s with heap := h', toks := tk } ∧ Step (Own env) σ s (σ.set p o') { s with heap := h', toks := tk } :=
  S.after (own := fun _ => False) (Step.set hp hm hk) (S.core.set tk hp hm hk hr hdd) fun _ _ q => q.elim
theorem Sim.add (S : Sim prog w B vars env ρ σ s) {p : Addr} {o' : O} {h' : Heap} (tk : Nat) (hp : s.heap.get? p = none) (hk : ∀ b x, s.heap.get? b = some x → h'.get? b = some x)
    (hr : ORel prog w h' p o') (hdd : o'.isD = true → (p == sysModules) = false := by intro h; cases h) : Sim prog w B vars env ρ (σ.set p o') { s with heap := h', toks := tk } ∧ Step (Own env) σ s (σ.set p o') { s with heap := h', toks := tk } :=
  S.after (own := fun _ => False) (Step.add hp hk) (S.core.add tk hp hk hr hdd) fun _ _ q => q.elim
/-- a thing of the call's own that was loose so far is told from now on -/
theorem Core.adopt (C : Core prog w B σ s) {p : Addr} {o' : O} {h' : Heap} (tk : Nat) (hs : σ p = none) (hb : B.heap.get? p = none) (hn : ∀ o, s.heap.get? p = some o → ¬ tupLike o) (hk : ∀ b x, b ≠ p → s.heap.get? b = some x → h'.get? b = some x)
    (hr : ORel prog w h' p o') (hdd : o'.isD = true → (p == sysModules) = false := by intro h; cases h) : Core prog w B (σ.set p o') { s with heap := h', toks := tk } where
  same := C.heapEq _ _
  base b x e := hk b x (fun q => by rw [q, hb] at e; cases e) (C.base b x e)
  objs a x e := by
    by_cases q : a = p
    · subst q; simp only [Store.set, if_true] at e; cases e; exact hr
    · simp only [Store.set, if_neg q] at e
      refine (C.objs a x e).keep (fun b hb => hk a b q hb) fun c oc hc ht => hk c oc (fun z => ?_) hc
      subst z; exact hn _ hc ht
  new a x e hx := by
    by_cases q : a = p
    · subst q; exact hb
    · simp only [Store.set, if_neg q] at e; exact C.new a x e hx
  dic a x e hx := by
    by_cases q : a = p
    · subst q; simp only [Store.set, if_true] at e; cases e; exact hdd hx
    · simp only [Store.set, if_neg q] at e; exact C.dic a x e hx
  low := C.low
theorem Step.adopt {p : Addr} {o' : O} {h' : Heap} {tk : Nat} (hk : ∀ b x, b ≠ p → s.heap.get? b = some x → h'.get? b = some x) : Step (fun a => own a ∨ a = p) σ s (σ.set p o') { s with heap := h', toks := tk } where
  keep a x e _ ho := hk a x (fun q => ho (.inr q)) e
  no a x e hs ho := by
    have q : a ≠ p := fun q => ho (.inr q)
    simp only [Store.set, if_neg q]; exact hs
  shut a x e hs ho := by
    have q : a ≠ p := fun q => ho (.inr q)
    simp only [Sh, Store.set, if_neg q]; exact hs
theorem Step.seal {p : Addr} (T : Step (fun a => own a ∨ a = p) σ s σ' s') (hp : s.heap.get? p = none) : Step own σ s σ' s' := T.less fun a o e q => q.elim id fun q => by rw [q, hp] at e; cases e
theorem Sim.adopt (S : Sim prog w B vars env ρ σ s) {p : Addr} {o' : O} {h' : Heap} (tk : Nat) (hs : σ p = none) (hb : B.heap.get? p = none) (ho : ¬ Own env p) (hn : ∀ o, s.heap.get? p = some o → ¬ tupLike o) (hk : ∀ b x, b ≠ p → s.heap.get? b = some x → h'.get? b = some x)
    (hr : ORel prog w h' p o') (hdd : o'.isD = true → (p == sysModules) = false := by intro h; cases h) : Sim prog w B vars env ρ (σ.set p o') { s with heap := h', toks := tk } := by
  refine ⟨S.core.adopt tk hs hb hn hk hr hdd, S.frame.kept (fun a o ha e => hk a o (fun q => ho (q ▸ ha)) e) (fun a o e ht => hk a o (fun q => by subst q; exact hn _ e ht) e) fun a ha => ?_⟩
  have q : a ≠ p := fun q => ho (q ▸ ha)
  simp only [Store.set, if_neg q]; exact (S.frame.own a ha).1
end

end Mine

namespace Mine
open PySem PyProof.Rows

structure Good (A : Around) (n : Nat) : Prop where
  hd : A.handled = none
  dep : A.depth + n < recursionLimit
  un : A.units + 5 * n + 40 < cLine
theorem Good.in1 {A : Around} {n : Nat} (g : Good A (n + 1)) : Good A.in1 n := ⟨g.hd, by have := g.dep; simp; omega, by have := g.un; simp; omega⟩
theorem Good.less {A : Around} {n k : Nat} (g : Good A n) (h : k ≤ n) : Good A k := ⟨g.hd, by have := g.dep; omega, by have := g.un; omega⟩
theorem Good.deeper {A : Around} {n : Nat} (g : Good A (n + 1)) (env : Env) : Good (A.deeper env) n := ⟨g.hd, by have := g.dep; simp [Around.deeper]; omega, by have := g.un; simp; omega⟩
/-- what stands at the top -/
structure Gl where
  consts : List (Str × V)
  fns : List (Str × Nat × Addr)
noncomputable def biTab : List (Str × Value) := [("len", .builtin "len"), ("isinstance", .builtin "isinstance"), ("max", .builtin "max"), ("min", .builtin "min"), ("sorted", .builtin "sorted"), ("list", .type "list"), ("dict", .type "dict"), ("tuple", .type "tuple"),
  ("int", .type "int"), ("bool", .type "bool"), ("str", .type "str"), ("range", .type "range"), ("enumerate", .type "enumerate")]
structure TopOK (B : Shared) (G : Gl) (mg mb : Str → Option Value) : Prop where
  g : B.heap.Ns mainGlobals mg
  b : B.heap.Ns builtinsNs mb
  lim : B.heap.NoLimit
  cst : ∀ x v, G.consts.lookup x = some v → ∃ u, mg x = some u ∧ VRel B.heap v u
  fn : ∀ x i a, G.fns.lookup x = some (i, a) → mg x = some (.ref a) ∧ ∃ o fd, B.heap.get? a = some o ∧ o.data = .func fd
  bi : ∀ x v, biTab.lookup x = some v → mg x = none ∧ mb x = some v
section
variable (prog : Program) (w : World) (B : Shared) (vars : List Str) (S : Spec) (n : Nat) (G : Gl)

/-- what a call gives -/
noncomputable def CallPost (σ : Store) (s : Shared) (Q : Post) (r : Result) (s' : Shared) : Prop :=
  ∃ v x σ', r = .ok (.ret v) ∧ VRel s'.heap x v ∧ Core prog w B σ' s' ∧ Step (fun _ => False) σ s σ' s' ∧ Q x σ'
noncomputable def SpecOK : Prop := ∀ x i a, G.fns.lookup x = some (i, a) → ∀ xs vs σ s Q A, Good A n → Core prog w B σ s → VRels s.heap xs vs → S i xs σ Q →
  codeAny (model prog w) A (.call (.ref a) ⟨vs, []⟩) (CallPost prog w B σ s Q) s
noncomputable def Got (env : Env) (ρ : Loc) (σ : Store) (s : Shared) (Q : Post) (v : Value) (s' : Shared) : Prop :=
  ∃ x σ', VRel s'.heap x v ∧ Sim prog w B vars env ρ σ' s' ∧ Step (Own env) σ s σ' s' ∧ Q x σ'
noncomputable def GotB (env : Env) (ρ : Loc) (σ : Store) (s : Shared) (Q : Bool → Store → Prop) (b : Bool) (s' : Shared) : Prop :=
  ∃ σ', Sim prog w B vars env ρ σ' s' ∧ Step (Own env) σ s σ' s' ∧ Q b σ'
noncomputable def GotL (env : Env) (ρ : Loc) (σ : Store) (s : Shared) (Q : List V → Store → Prop) (vs : List Value) (s' : Shared) : Prop :=
  ∃ xs σ', VRels s'.heap xs vs ∧ Sim prog w B vars env ρ σ' s' ∧ Step (Own env) σ s σ' s' ∧ Q xs σ'
structure SoundE (kd : Str → Option NameKind) (e : Expr) (x : X) : Prop where
  ev : ∀ (env : Env) A ρ σ s Q, env.kindOf = kd → Good A n → Sim prog w B vars env ρ σ s → wpE S x ρ σ Q →
    wpAny (model prog w) A (eval e env) (Got prog w B vars env ρ σ s Q) (fun _ _ => False) s
  tr : ∀ (env : Env) A ρ σ s Q, env.kindOf = kd → Good A n → Sim prog w B vars env ρ σ s → wpE S x ρ σ (asBool Q) →
    wpAny (model prog w) A (isTrue e env (eval e env)) (GotB prog w B vars env ρ σ s Q) (fun _ _ => False) s
noncomputable def SoundEs (kd : Str → Option NameKind) (es : List Expr) (xs : List X) : Prop :=
  ∀ (env : Env) A ρ σ s Q, env.kindOf = kd → Good A n → Sim prog w B vars env ρ σ s → wpEs S xs ρ σ Q → ∀ pos,
    wpAny (model prog w) A (spliced (backTo pos (starEach es env))) (fun vs s' => vs.length = es.length ∧ GotL prog w B vars env ρ σ s Q vs s') (fun _ _ => False) s
end

section
variable {prog : Program} {w : World} {B : Shared} {vars : List Str} {S : Spec} {n : Nat} {G : Gl} {kd : Str → Option NameKind} {env : Env} {ρ : Loc} {σ σ₁ : Store} {s s₁ s' : Shared} {A : Around}

theorem Got.trans {Q : Post} {v : Value} (T : Step (Own env) σ s σ₁ s₁) (h : Got prog w B vars env ρ σ₁ s₁ Q v s') : Got prog w B vars env ρ σ s Q v s' := by
  obtain ⟨x, σ', a, b, c, d⟩ := h; exact ⟨x, σ', a, b, T.trans c, d⟩
theorem GotB.trans {Q : Bool → Store → Prop} {v : Bool} (T : Step (Own env) σ s σ₁ s₁) (h : GotB prog w B vars env ρ σ₁ s₁ Q v s') : GotB prog w B vars env ρ σ s Q v s' := by
  obtain ⟨σ', b, c, d⟩ := h; exact ⟨σ', b, T.trans c, d⟩
theorem Got.here {Q : Post} {v : Value} {x : V} (h : VRel s.heap x v) (M : Sim prog w B vars env ρ σ s) (q : Q x σ) : Got prog w B vars env ρ σ s Q v s := ⟨x, σ, h, M, .refl, q⟩
/-- a plain value, nothing turned but tokens -/
theorem Got.tok {Q : Post} {v : Value} {x : V} {tk : Nat} (M : Sim prog w B vars env ρ σ s) (h : VRel s.heap x v) (q : Q x σ) : Got prog w B vars env ρ σ s Q v { s with toks := tk } := ⟨x, σ, h, M.toks tk, Step.toks, q⟩
/-- by its value, where the test has no form of its own -/
theorem SoundE.of {e : Expr} {x : X} (he : ∀ (env : Env), isTrue e env (eval e env) = (do let v ← eval e env; standAt e.pos; holding [v] (truthy v)))
    (h : ∀ (env : Env) A ρ σ s Q, env.kindOf = kd → Good A n → Sim prog w B vars env ρ σ s → wpE S x ρ σ Q → wpAny (model prog w) A (eval e env) (Got prog w B vars env ρ σ s Q) (fun _ _ => False) s) :
    SoundE prog w B vars S n kd e x := by
  refine ⟨h, fun env A ρ σ s Q hk g M q => ?_⟩
  refine isTrue_plain (wpAny_mono (h env A ρ σ s _ hk g M q) (fun v s₁ h₁ => ?_) fun _ _ x => x) (he env)
  obtain ⟨x, σ', r, M', T, q'⟩ := h₁
  cases x with
  | bool b => simp only [VRel] at r; subst r; exact wpAny_truthy_bool ⟨σ', M', T, q'⟩
  | _ => exact q'.elim
theorem SoundE.var {i : Nat} {x : Str} {pos : Pos} (hx : vars[i]? = some x) (hk : kd x = some .local ∨ kd x = some .cell ∨ kd x = some .free) (hd : (x == ("__debug__" : Str)) = false) (hc : (x == ("__classdict__" : Str)) = false) :
    SoundE prog w B vars S n kd (.Name x pos) (.var i) := by
  refine SoundE.of (fun _ => rfl) fun env A ρ σ s Q hkd g M q => ?_
  dsimp only [we_var, we_cst, we_gl, we_bin, we_cmp, we_cmp2, we_and, we_or, we_not, we_sub, we_slc, we_rev, we_list, we_tup, we_dict0, we_dict1, we_comp, we_compIf, we_call, we_len, we_listOf, we_dictOf, we_tupleOf, we_isi, we_max2, we_minOf, we_sorted, we_rng1, we_rng2, we_append, we_insert0, we_pop, we_get1, we_get2] at q
  obtain ⟨v, hv, q⟩ := q
  subst hkd
  rcases hk with hk | hk | hk
  · obtain ⟨m, hn, hm⟩ := M.frame.ns
    obtain ⟨u, hu, hr⟩ := hm i x v hx hv hk
    exact wpAny_Name (wpAny_loadName_local M.frame.kind hk hn hu (Got.here hr M q)) hd
  · obtain ⟨c, u, hcl, hcv, hr⟩ := M.frame.cell i x v hx hv (.inl hk)
    exact wpAny_Name (wpAny_loadName_cell M.frame.kind hk hcl hcv (Got.here hr M q)) hd
  · obtain ⟨c, u, hcl, hcv, hr⟩ := M.frame.cell i x v hx hv (.inr hk)
    exact wpAny_Name (wpAny_loadName_free M.frame.kind hk hcl hcv (Got.here hr M q) hc) hd
/-- an immediate -/
noncomputable def imm : V → Bool
  | .none => true | .bool _ => true | .int _ => true | .str _ => true | _ => false
theorem VRel.imm {h h' : Heap} {x : V} {v : Value} (hi : imm x = true) (r : VRel h x v) : VRel h' x v := by
  cases x <;> simp only [Mine.imm, Bool.false_eq_true] at hi <;> simpa only [VRel] using r
theorem SoundE.gl {x : Str} {pos : Pos} {v : V} {mg mb} (T : TopOK B G mg mb) (hx : G.consts.lookup x = some v) (hi : imm v = true) (hk : kd x = some .globalImplicit) (hd : (x == ("__debug__" : Str)) = false) :
    SoundE prog w B vars S n kd (.Name x pos) (.gl x v) := by
  refine SoundE.of (fun _ => rfl) fun env A ρ σ s Q hkd g M q => ?_
  subst hkd
  obtain ⟨u, hu, hr⟩ := T.cst x v hx
  refine Calls.Name_function_global M.frame.kind hk (Calls.loadGlobal_global (mg := mg) ?_ hu (Got.here (hr.imm hi) M q)) hd
  rw [M.frame.glob]; exact T.g.keeps M.core.base
theorem SoundE.cInt {i : Int} {k : Nat} {pos : Pos} : SoundE prog w B vars S n kd (.Constant (.int i) k pos) (.cst (.int i)) :=
  SoundE.of (fun _ => rfl) fun env A ρ σ s Q _ _ M q => wpAny_Constant_int (Got.tok (x := .int i) M (by simp [VRel]) q)
theorem SoundE.cStr {i : Str} {k : Nat} {pos : Pos} : SoundE prog w B vars S n kd (.Constant (.str i) k pos) (.cst (.str i)) :=
  SoundE.of (fun _ => rfl) fun env A ρ σ s Q _ _ M q => Calls.Constant_str (Got.tok (x := .str i) M (by simp [VRel]) q)
theorem SoundE.cBool {i : Bool} {k : Nat} {pos : Pos} : SoundE prog w B vars S n kd (.Constant (.bool i) k pos) (.cst (.bool i)) :=
  SoundE.of (fun _ => rfl) fun env A ρ σ s Q _ _ M q => wpAny_pure (a := Value.bool i) (Got.here (x := .bool i) (by simp [VRel]) M q)
theorem SoundE.cNone {k : Nat} {pos : Pos} : SoundE prog w B vars S n kd (.Constant .none k pos) (.cst .none) :=
  SoundE.of (fun _ => rfl) fun env A ρ σ s Q _ _ M q => wpAny_pure (a := Value.none) (Got.here (x := .none) (by simp [VRel]) M q)
noncomputable def starred : Expr → Bool
  | .Starred .. => true
  | _ => false
theorem SoundEs.nil : SoundEs prog w B vars S n kd [] [] := fun env A ρ σ s Q _ _ M q pos => by
  dsimp only [we_nil, we_cons] at q
  exact Calls.spliced_nil ⟨rfl, [], σ, .nil, M, .refl, q⟩
theorem SoundEs.cons {e : Expr} {x : X} {es : List Expr} {xs : List X} (h : SoundE prog w B vars S n kd e x) (r : SoundEs prog w B vars S n kd es xs) (hs : starred e = false := by rfl) : SoundEs prog w B vars S n kd (e :: es) (x :: xs) := fun env A ρ σ s Q hk g M q pos => by
  dsimp only [we_nil, we_cons] at q
  have e1 : backTo pos (starEach (e :: es) env) = (false, eval e env) :: backTo pos (starEach es env) := by
    cases e <;> first | rfl | cases hs
  rw [e1]
  refine Calls.spliced_cons (wpAny_mono (h.ev env A ρ σ s _ hk g M q) (fun v s₁ h₁ => ?_) fun _ _ x => x)
  obtain ⟨x, σ₁, rv, M₁, T₁, q₁⟩ := h₁
  refine wpAny_mono (r env A ρ σ₁ s₁ _ hk g M₁ q₁ pos) (fun vs s₂ h₂ => ?_) fun _ _ x => x
  obtain ⟨hl, ys, σ₂, rvs, M₂, T₂, q₂⟩ := h₂
  exact ⟨by simp [hl], x :: ys, σ₂, .cons (rv.step M₁ T₂) rvs, M₂, T₁.trans T₂, q₂⟩
theorem foldl_cat (a : Array Nat) : ∀ (k : Nat) (acc : Array Nat), ((List.replicate k a).foldl (· ++ ·) acc).toList = acc.toList ++ (List.replicate k a.toList).flatten
  | 0, acc => by simp
  | k + 1, acc => by
    rw [List.replicate_succ, List.foldl_cons, foldl_cat a k, List.replicate_succ]
    simp
theorem mul_is (x : Str) {k : Int} (hk : 0 ≤ k) : Txt.mul x k = strRep x k.toNat := by
  have ext : ∀ (y z : Str), y.cps.toList = z.cps.toList → y = z := fun y z e => by
    cases y; cases z; congr; exact Array.toList_inj.mp e
  apply ext
  unfold Txt.mul strRep
  split
  · have : k = 0 := by omega
    subst this; rfl
  · split
    · rename_i h1 h2
      simp only [Bool.or_eq_true, beq_iff_eq] at h2
      rcases h2 with h2 | h2
      · subst h2; simp
      · have h3 : x.cps.toList = [] := by
          have : x.cps.size = 0 := h2
          simpa using this
        simp [h3]
    · simp only [foldl_cat]; simp
theorem alloc_list (M : Sim prog w B vars env ρ σ s) {l : List V} {vs : List Value} {Q : Post} {h' : Heap} {a : Addr} {tk : Nat} (hr : VRels s.heap l vs) (hz : vs.length ≤ 16777216) (q : fresh σ (.list true l) Q) (ha : s.heap.get? a = none)
    (hk : ∀ b o, s.heap.get? b = some o → h'.get? b = some o) (hp : h'.PlainList a vs.toArray) : Got prog w B vars env ρ σ s Q (.ref a) { s with heap := h', toks := tk } := by
  obtain ⟨M', T'⟩ := M.add (o' := .list true l) (h' := h') tk ha hk ⟨vs.toArray, ⟨hp.isList, fun _ => hp⟩, by simpa using hz, by simpa using hr.keep fun c o e _ => hk c o e⟩
  exact ⟨.ref a, _, rfl, M', T', q a (M.core.free ha).1⟩
theorem get_size (h : Heap) : h.get? h.objs.size = none := by
  cases e : h.get? h.objs.size with
  | none => rfl
  | some o => exact absurd (Heap.lt_size e) (Nat.lt_irrefl _)
theorem bin_sound {op : Operator} {o : BOp} {a b : Value} {x y : V} {Q : Post} (hop : (o, op) ∈ [(BOp.add, Operator.Add), (.sub, .Sub), (.mul, .Mult), (.fdiv, .FloorDiv), (.mod, .Mod)])
    (M : Sim prog w B vars env ρ σ s) (ra : VRel s.heap x a) (rb : VRel s.heap y b) (q : wpBin o x y σ Q) : wpAny (model prog w) A (binaryOp op a b) (Got prog w B vars env ρ σ s Q) (fun _ _ => False) s := by
  have intGot : ∀ (i : Int), Q (.int i) σ → Got prog w B vars env ρ σ s Q (.int i s.toks) { s with toks := s.toks + 1 } := fun i q => Got.tok (x := .int i) M (by simp [VRel]) q
  unfold wpBin at q
  split at q
  · simp only [VRel] at ra rb; obtain ⟨t, rfl⟩ := ra; obtain ⟨u, rfl⟩ := rb
    simp at hop; subst hop; exact add_int (intGot _ q)
  · simp only [VRel] at ra rb; obtain ⟨t, rfl⟩ := ra; obtain ⟨u, rfl⟩ := rb
    simp at hop; subst hop; exact sub_int (intGot _ q)
  · simp only [VRel] at ra rb; obtain ⟨t, rfl⟩ := ra; obtain ⟨u, rfl⟩ := rb
    simp at hop; subst hop
    refine mul_int (intGot _ q.2) ?_
    rcases q.1 with h | h
    · exact IntMulOk.of_left (intBits_le_64 (by omega) (by omega))
    · exact IntMulOk.of_right (intBits_le_64 (by omega) (by omega))
  · simp only [VRel] at ra rb; obtain ⟨t, rfl⟩ := ra; obtain ⟨u, rfl⟩ := rb
    simp at hop; subst hop
    rename_i i j
    refine floordiv_int (by omega) ?_ (.inl (PyProof.noPylong_small (by omega)))
    rw [Int.fdiv_eq_ediv_of_nonneg _ (by omega)]
    exact intGot _ q.2.2
  · simp only [VRel] at ra rb; obtain ⟨t, rfl⟩ := ra; obtain ⟨u, rfl⟩ := rb
    simp at hop; subst hop
    rename_i i j
    refine mod_int' (by omega) ?_
    rw [Int.fmod_eq_emod_of_nonneg _ (by omega)]
    exact intGot _ q.2
  · simp only [VRel] at ra rb; obtain ⟨t, rfl⟩ := ra; obtain ⟨u, rfl⟩ := rb
    simp at hop; subst hop
    rename_i x y
    exact add_str (fun t' tk => Got.tok (x := .str (x ++ y)) M (by simp [VRel]) q.2) (by rw [sizeLine_eq]; omega)
  · simp only [VRel] at ra rb; obtain ⟨t, rfl⟩ := ra; obtain ⟨u, rfl⟩ := rb
    simp at hop; subst hop
    rename_i x k
    refine SB.mul (mulOk_of 16 1048576 (by omega) (by omega) (by omega) (by decide) (by decide)) fun t' k' => ?_
    rw [mul_is x q.1]
    exact Got.tok (x := .str _) M (by simp [VRel]) q.2.2.2
  · simp only [VRel] at ra rb; subst ra; subst rb
    simp at hop; subst hop
    rename_i p₁ p₂
    obtain ⟨l, l', h1, h2, h3, q⟩ := q
    obtain ⟨vs, ⟨_, hp1⟩, y1, r1⟩ := M.core.objs _ _ h1
    obtain ⟨n1, g1⟩ := hp1 rfl
    obtain ⟨us, ⟨_, hp2⟩, y2, r2⟩ := M.core.objs _ _ h2
    obtain ⟨n2, g2⟩ := hp2 rfl
    have z1 := r1.length
    have z2 := r2.length
    simp only [Array.length_toList] at z1 z2
    refine P.add_list g1 g2 ?_ (by rw [sizeLine_eq]; omega)
    refine alloc_list (tk := s.toks) (vs := vs.toList ++ us.toList) M (r1.append r2) (by simp; omega) q (get_size _) (fun b o e => Heap.get?_push_of_some _ e) ⟨0, ?_⟩
    rw [show (vs.toList ++ us.toList).toArray = vs ++ us from by simp]
    exact Heap.get?_push_size _ rfl
  · exact q.elim
end
end Mine

namespace Mine
open PySem PyProof.Rows

section
variable {prog : Program} {w : World} {B : Shared} {vars : List Str} {S : Spec} {n : Nat} {G : Gl} {kd : Str → Option NameKind} {env : Env} {ρ : Loc} {σ σ₁ : Store} {s s₁ s' : Shared} {A : Around}

theorem datB_reads {h : Heap} {x : V} {v : Value} {d : PyData} (e : datB x = some d) (r : VRel h x v) : ∃ as, Reads h v d as ∧ d.canLay0 = true ∧ d.depth = 0 := by
  cases x with
  | none => simp only [datB] at e; cases e; simp only [VRel] at r; subst r; exact ⟨_, .none, rfl, rfl⟩
  | bool b => simp only [datB] at e; cases e; simp only [VRel] at r; subst r; exact ⟨_, .bool b, rfl, rfl⟩
  | int i => simp only [datB] at e; cases e; simp only [VRel] at r; obtain ⟨t, rfl⟩ := r; exact ⟨_, .int i t, rfl, rfl⟩
  | str x =>
    simp only [datB] at e
    split at e
    · rename_i hx; cases e; simp only [VRel] at r; obtain ⟨t, rfl⟩ := r; exact ⟨_, .str x t, by simpa [PyData.canLay0] using hx, rfl⟩
    · cases e
  | _ => simp only [datB] at e; cases e
theorem datL_reads {h : Heap} {f : V → Option PyData} {k : Nat} (hf : ∀ x v d, f x = some d → VRel h x v → ∃ as, Reads h v d as ∧ d.canLay0 = true ∧ d.depth ≤ k) :
    ∀ (l : List V) (vs : List Value) (ds : List PyData), datL f l = some ds → VRels h l vs → ∃ as, ReadsAll h vs ds as ∧ PyData.canLayAll0 ds = true ∧ PyData.depthAll ds ≤ k
  | [], _, _, e, r => by simp only [datL] at e; cases e; simp only [VRels] at r; subst r; exact ⟨_, .nil, rfl, Nat.zero_le _⟩
  | x :: l, _, _, e, r => by
    simp only [datL] at e
    split at e
    · rename_i d ds h1 h2
      cases e
      simp only [VRels] at r
      obtain ⟨v, r', rfl, ra, rb⟩ := r
      obtain ⟨as, g1, g2, g3⟩ := hf x v d h1 ra
      obtain ⟨bs, k1, k2, k3⟩ := datL_reads hf l r' ds h2 rb
      exact ⟨_, .cons g1 k1, by simp [PyData.canLayAll0, g2, k2], by simp only [PyData.depthAll]; omega⟩
    · cases e
theorem dat_reads (C : Core prog w B σ s) : ∀ (k : Nat) (x : V) (v : Value) (d : PyData), dat σ k x = some d → VRel s.heap x v → ∃ as, Reads s.heap v d as ∧ d.canLay0 = true ∧ d.depth ≤ k
  | 0, x, v, d, e, r => by
    obtain ⟨as, a, b, c⟩ := datB_reads (by simpa only [dat] using e) r; exact ⟨as, a, b, by omega⟩
  | k + 1, x, v, d, e, r => by
    have dflt : datB x = some d → ∃ as, Reads s.heap v d as ∧ d.canLay0 = true ∧ d.depth ≤ k + 1 := fun e => by
      obtain ⟨as, a, b, c⟩ := datB_reads e r; exact ⟨as, a, b, by omega⟩
    cases x with
    | tup l =>
      simp only [dat] at e
      cases hd : datL (dat σ k) l with
      | none => rw [hd] at e; cases e
      | some ds =>
        rw [hd] at e; cases e
        simp only [VRel] at r
        obtain ⟨a, vs, m, rfl, g, _, rs⟩ := r
        obtain ⟨as, h1, h2, h3⟩ := datL_reads (dat_reads C k) l _ ds hd rs
        exact ⟨_, .tuple g rfl rfl h1, by simpa [PyData.canLay0] using h2, by simp only [PyData.depth]; omega⟩
    | ref a =>
      simp only [dat] at e
      split at e
      · rename_i m l hl
        cases hd : datL (dat σ k) l with
        | none => rw [hd] at e; cases e
        | some ds =>
          rw [hd] at e; cases e
          simp only [VRel] at r
          subst r
          obtain ⟨vs, ⟨⟨o, g, hc, z, hdd⟩, _⟩, _, rs⟩ := C.objs _ _ hl
          obtain ⟨as, h1, h2, h3⟩ := datL_reads (dat_reads C k) l _ ds hd rs
          exact ⟨_, .list g hc hdd h1, by simpa [PyData.canLay0] using h2, by simp only [PyData.depth]; omega⟩
      · cases e
    | none => exact dflt e
    | bool b => exact dflt e
    | int i => exact dflt e
    | str x => exact dflt e
    | rng a b => exact dflt e
theorem Good.room {k : Nat} (g : Good A n) (h : k ≤ 30) : A.units + k < cLine := by have := g.un; omega
theorem beq_str (x y : Str) : (x == y) = decide (x = y) := by
  by_cases h : x = y
  · subst h; simp
  · simp [h]
theorem Core.notMods (C : Core prog w B σ s) {mg mb} (_ : TopOK B G mg mb) {a : Addr} {o : O} (h : σ a = some o) (hd : o.isD = true) : (a == sysModules) = false := C.dic a o h hd
theorem look_valueAt {K : Type} [DecidableEq K] {h : Heap} : ∀ {es : List (K × V)} {kvs : List (K × Value)}, kvs.map (·.1) = es.map (·.1) → VRels h (es.map (·.2)) (kvs.map (·.2)) → ∀ k : K,
    (look es k = none ∧ valueAt kvs k = none) ∨ ∃ x v, look es k = some x ∧ valueAt kvs k = some v ∧ VRel h x v
  | [], [], _, _, k => .inl ⟨rfl, rfl⟩
  | [], _ :: _, e, _, _ => by simp at e
  | _ :: _, [], e, _, _ => by simp at e
  | e :: es, kv :: kvs, hk, hv, k => by
    simp only [List.map_cons, List.cons.injEq] at hk
    simp only [List.map_cons, VRels] at hv
    obtain ⟨v, r, hv1, hv2, hv3⟩ := hv
    simp only [List.cons.injEq] at hv1
    obtain ⟨rfl, rfl⟩ := hv1
    have ih := look_valueAt hk.2 hv3 k
    by_cases q : e.1 = k
    · refine .inr ⟨e.2, kv.2, ?_, ?_, hv2⟩
      · simp [look, q]
      · simp [valueAt, hk.1, q]
    · have e1 : look (e :: es) k = look es k := by simp [look, q]
      have e2 : valueAt (kv :: kvs) k = valueAt kvs k := by simp [valueAt, hk.1, q]
      rw [e1, e2]; exact ih
theorem look_isSome {K : Type} [DecidableEq K] {h : Heap} {es : List (K × V)} {kvs : List (K × Value)} (hk : kvs.map (·.1) = es.map (·.1)) (hv : VRels h (es.map (·.2)) (kvs.map (·.2))) (k : K) : (valueAt kvs k).isSome = (look es k).isSome := by
  rcases look_valueAt hk hv k with ⟨a, b⟩ | ⟨x, v, a, b, _⟩ <;> rw [a, b] <;> rfl
theorem eqT_sound {a b : Value} {x y : V} {r : Bool} (g : Good A n) (C : Core prog w B σ s) (ra : VRel s.heap x a) (rb : VRel s.heap y b) (e : eqT σ x y = some r) {Q : Value → Shared → Prop} {E : Value → Shared → Prop} :
    (Q (.bool r) s → wpAny (model prog w) A (compareOp .Eq a b) Q E s) ∧ (Q (.bool !r) s → wpAny (model prog w) A (compareOp .NotEq a b) Q E s) := by
  unfold eqT at e
  split at e
  · rename_i d d' h1 h2
    cases e
    obtain ⟨as, a1, a2, a3⟩ := dat_reads C _ _ _ _ h1 ra
    obtain ⟨bs, b1, b2, b3⟩ := dat_reads C _ _ _ _ h2 rb
    have hu : A.units + min d.depth d'.depth < cLine := by have := g.room (k := 4) (by omega); omega
    exact ⟨fun q => SeqAt.compareEq_reads a1 b1 a2 b2 hu q, fun q => SeqAt.compareNe_reads a1 b1 a2 b2 hu q⟩
  · cases e
theorem intsOf_rel {h : Heap} : ∀ {l : List V} {is : List Int} {vs : List Value}, intsOf l = some is → VRels h l vs → vs.length = is.length ∧ ∀ (j : Nat) (v : Value) (i : Int), vs[j]? = some v → is[j]? = some i → ∃ t, v = .int i t
  | [], _, _, e, r => by simp only [intsOf] at e; cases e; simp only [VRels] at r; subst r; exact ⟨rfl, fun j v i h => by simp at h⟩
  | x :: l, is, _, e, r => by
    cases x with
    | int i =>
      simp only [intsOf, Option.map_eq_some_iff] at e
      obtain ⟨is', e, rfl⟩ := e
      simp only [VRels] at r
      obtain ⟨v, r', rfl, ra, rb⟩ := r
      simp only [VRel] at ra
      obtain ⟨t, rfl⟩ := ra
      obtain ⟨h1, h2⟩ := intsOf_rel e rb
      refine ⟨by simp [h1], fun j v i' hv hi => ?_⟩
      cases j with
      | zero => simp at hv hi; subst hv; subst hi; exact ⟨t, rfl⟩
      | succ j => simp at hv hi; exact h2 j v i' hv hi
    | _ => simp only [intsOf] at e; cases e
theorem valueAt_get {K : Type} [DecidableEq K] {kvs : List (K × Value)} (hn : (kvs.map (·.1)).Nodup) {j : Nat} {k : K} {v : Value} (h : kvs[j]? = some (k, v)) : valueAt kvs k = some v := by
  induction kvs generalizing j with
  | nil => simp at h
  | cons kv r ih =>
    simp only [List.map_cons, List.nodup_cons] at hn
    cases j with
    | zero => simp at h; subst h; simp [valueAt]
    | succ j =>
      simp at h
      have hm : k ∈ r.map (·.1) := List.mem_map.mpr ⟨(k, v), List.mem_of_getElem? h, rfl⟩
      have hne : kv.1 ≠ k := fun q => hn.1 (q ▸ hm)
      have := ih hn.2 h
      simpa [valueAt, hne] using this
open PySem.W in
theorem hits_of {K : Type} [DecidableEq K] {kb : List (K × Value)} (hn : (kb.map (·.1)).Nodup) (is : List Int) (hb : ∀ (j : Nat) (v : Value) (i : Int), (kb.map (·.2))[j]? = some v → is[j]? = some i → ∃ t, v = .int i t) :
    ∀ (ka : List (K × Value)) (k : Nat), ka.map (·.1) = (kb.map (·.1)).drop k → (∀ (j : Nat) (v : Value) (i : Int), (ka.map (·.2))[j]? = some v → is[k + j]? = some i → ∃ t, v = .int i t) → is.length = kb.length → ka.length + k = kb.length → KeqHits A s kb ka true
  | [], _, _, _, _, _ => .nil
  | (x, v) :: ka, k, hk, hv, hl, hz => by
    have hz' : k < kb.length := by simp at hz; omega
    have e1 : (kb.map (·.1)).drop k = (kb.map (·.1))[k]'(by simpa using hz') :: (kb.map (·.1)).drop (k + 1) := List.drop_eq_getElem_cons (by simpa using hz')
    rw [e1] at hk
    simp only [List.map_cons, List.cons.injEq, List.getElem_map] at hk
    have hget : kb[k]? = some (x, kb[k].2) := by rw [List.getElem?_eq_getElem hz']; rw [hk.1]
    obtain ⟨z, hi⟩ : ∃ z, is[k]? = some z := ⟨_, List.getElem?_eq_getElem (by omega)⟩
    obtain ⟨t, ht⟩ := hv 0 v z (by simp) (by simpa using hi)
    obtain ⟨u, hu⟩ := hb k kb[k].2 z (by simp [hz']) hi
    have he : SeqAt.EqAt A s v kb[k].2 true := by
      rw [ht, hu]; have := SeqAt.EqAt.int_int (A := A) (s := s) z t z u; simpa using this
    have hh := KeqHits.hit (A := A) (s := s) (e := true) (b := true) (valueAt_get hn hget) he (hits_of hn is hb ka (k + 1) hk.2 (fun j v i h1 h2 => hv (j + 1) v i (by simpa using h1) (by rw [show k + (j + 1) = k + 1 + j from by omega]; exact h2)) hl (by simp at hz; omega))
    simpa using hh
open PySem.W in
theorem eqD_sound {p q : Addr} {m m' : Bool} {es es' : List (Str × V)} {r : Bool} {mg mb} (T : TopOK B G mg mb) (g : Good A n) (C : Core prog w B σ s) (hp : σ p = some (.ds m es)) (hq : σ q = some (.ds m' es')) (e : eqD es es' = some r) {Q : Value → Shared → Prop} {E : Value → Shared → Prop} :
    (Q (.bool r) s → wpAny (model prog w) A (compareOp .Eq (.ref p) (.ref q)) Q E s) ∧ (Q (.bool !r) s → wpAny (model prog w) A (compareOp .NotEq (.ref p) (.ref q)) Q E s) := by
  unfold eqD at e
  split at e
  · rename_i is is' h1 h2
    split at e
    · rename_i hh
      cases e
      obtain ⟨kvs, hd, hk, hv⟩ := C.objs _ _ hp
      obtain ⟨kvs', hd', hk', hv'⟩ := C.objs _ _ hq
      obtain ⟨hk1, rfl⟩ := hh
      have l1 := congrArg List.length hk
      have l2 := congrArg List.length hk'
      have l3 := congrArg List.length hk1
      simp only [List.length_map] at l1 l2 l3
      have r1 := intsOf_rel h1 hv
      have r2 := intsOf_rel h2 hv'
      have n1 : is.length = kvs'.length := by have := r2.1; simp at this; omega
      have hn : (kvs'.map (·.1)).Nodup := let ⟨_, _, _, _, _, _, _, _, hn⟩ := hd'; hn
      have hits : kvs.length = kvs'.length → KeqHits A.in1 s kvs' kvs true := fun _ =>
        hits_of hn is r2.2 kvs 0 (by rw [List.drop_zero, hk, hk', hk1]) (fun j v i a b => r1.2 j v i a (by simpa using b)) n1 (by omega)
      have hu : A.units < cLine := by have := g.room (k := 0) (by omega); omega
      have e2 : (kvs.length == kvs'.length && true) = true := by simp; omega
      exact ⟨fun h => keq_eq (C.notMods T hp rfl) (C.notMods T hq rfl) hd hd' hu hits (by rw [e2]; exact h), fun h => keq_ne (C.notMods T hp rfl) (C.notMods T hq rfl) hd hd' hu hits (by rw [e2]; exact h)⟩
    · cases e
  · cases e
theorem eq_both {a b : Value} {x y : V} {r : Bool} {mg mb} (T : TopOK B G mg mb) (g : Good A n) (C : Core prog w B σ s) (ra : VRel s.heap x a) (rb : VRel s.heap y b) (e : eqV σ x y = some r) {Q : Value → Shared → Prop} {E : Value → Shared → Prop} :
    (Q (.bool r) s → wpAny (model prog w) A (compareOp .Eq a b) Q E s) ∧ (Q (.bool !r) s → wpAny (model prog w) A (compareOp .NotEq a b) Q E s) := by
  unfold eqV at e
  split at e
  · simp only [VRel] at ra rb; obtain ⟨t, rfl⟩ := ra; obtain ⟨u, rfl⟩ := rb
    cases e
    exact ⟨fun q => by refine eq_str ?_; rw [beq_str]; exact q, fun q => by refine ne_str ?_; rw [bne, beq_str]; exact q⟩
  · simp only [VRel] at ra rb; obtain ⟨t, rfl⟩ := ra; obtain ⟨u, rfl⟩ := rb
    cases e
    rename_i i j
    exact ⟨fun q => by refine eq_int ?_; rw [show (i == j) = decide (i = j) from rfl]; exact q, fun q => by refine ne_int ?_; rw [bne, show (i == j) = decide (i = j) from rfl]; exact q⟩
  · split at e
    · simp only [VRel] at ra rb; subst ra; subst rb
      rename_i h1 h2
      exact eqD_sound T g C h1 h2 e
    · exact eqT_sound g C ra rb e
  · exact eqT_sound g C ra rb e
/-- the comparison of the model -/
noncomputable def COp.real : COp → CmpOp
  | .eq => .Eq | .ne => .NotEq | .lt => .Lt | .le => .LtE | .gt => .Gt | .ge => .GtE | .isin => .In | .notin => .NotIn | .is => .Is
theorem in_sound {a b : Value} {x y : V} {r : Bool} {mg mb} (T : TopOK B G mg mb) (g : Good A n) (C : Core prog w B σ s) (ra : VRel s.heap x a) (rb : VRel s.heap y b) (e : inV σ x y = some r) {Q : Value → Shared → Prop} {E : Value → Shared → Prop} :
    ((∀ tk, Q (.bool r) { s with toks := tk }) → wpAny (model prog w) A (compareOp .In a b) Q E s) ∧ ((∀ tk, Q (.bool !r) { s with toks := tk }) → wpAny (model prog w) A (compareOp .NotIn a b) Q E s) := by
  unfold inV at e
  split at e
  · rename_i p
    simp only [VRel] at rb; subst rb
    split at e
    · rename_i m l hl
      unfold inL at e
      split at e
      · rename_i ds d h1 h2
        cases e
        obtain ⟨vs, ⟨⟨o, gl, hcl, z, hdd⟩, _⟩, _, rs⟩ := C.objs _ _ hl
        obtain ⟨as, a1, a2, a3⟩ := datL_reads (dat_reads C 2) l _ ds h1 rs
        obtain ⟨bs, b1, b2, b3⟩ := dat_reads C _ _ _ _ h2 ra
        have hu : A.units + 1 + min (PyData.depthAll ds) d.depth < cLine := by have := g.room (k := 4) (by omega); omega
        exact ⟨fun q => SeqAt.in_list_reads (.list gl hcl hdd a1) b1 a2 b2 hu (q s.toks), fun q => SeqAt.notIn_list_reads (.list gl hcl hdd a1) b1 a2 b2 hu (q s.toks)⟩
      · cases e
    · rename_i m es hl
      split at e
      · rename_i k
        cases e
        simp only [VRel] at ra; obtain ⟨t, rfl⟩ := ra
        obtain ⟨kvs, hd, hk, hv⟩ := C.objs _ _ hl
        have hm := C.notMods T hl rfl
        rw [← look_isSome hk hv]
        exact ⟨fun q => wpAny_in_of (knd := strKind prog w) (by simp [PySem.strKind, Value.isStrOf]) hm hd.mapOf (q _), fun q => wpAny_notIn_of (knd := strKind prog w) (by simp [PySem.strKind, Value.isStrOf]) hm hd.mapOf (q _)⟩
      · cases e
    · rename_i m es hl
      split at e
      · rename_i k
        cases e
        simp only [VRel] at ra; obtain ⟨t, rfl⟩ := ra
        obtain ⟨kvs, hd, hk, hv⟩ := C.objs _ _ hl
        have hm := C.notMods T hl rfl
        rw [← look_isSome hk hv]
        exact ⟨fun q => wpAny_in_of (knd := intKind prog w) (by simp [PySem.intKind, Value.isInt]) hm hd.mapOf (q _), fun q => wpAny_notIn_of (knd := intKind prog w) (by simp [PySem.intKind, Value.isInt]) hm hd.mapOf (q _)⟩
      · cases e
    · cases e
  · split at e
    · simp only [VRel] at ra rb; obtain ⟨t, rfl⟩ := ra; obtain ⟨u, rfl⟩ := rb
      cases e
      exact ⟨fun q => in_str (q s.toks), fun q => notIn_str (q s.toks)⟩
    · cases e
  · cases e
theorem cmp_sound {o : COp} {a b : Value} {x y : V} {r : Bool} {mg mb} (T : TopOK B G mg mb) (g : Good A n) (C : Core prog w B σ s) (ra : VRel s.heap x a) (rb : VRel s.heap y b) (e : cmpV o x y σ = some r)
    {Q : Value → Shared → Prop} {E : Value → Shared → Prop} (q : ∀ tk, Q (.bool r) { s with toks := tk }) : wpAny (model prog w) A (compareOp o.real a b) Q E s := by
  unfold cmpV at e
  cases o with
  | eq => exact (eq_both T g C ra rb e).1 (q s.toks)
  | ne =>
    simp only [Option.map_eq_some_iff] at e
    obtain ⟨r', e, rfl⟩ := e
    exact (eq_both T g C ra rb e).2 (q s.toks)
  | isin => exact (in_sound T g C ra rb e).1 q
  | notin =>
    simp only [Option.map_eq_some_iff] at e
    obtain ⟨r', e, rfl⟩ := e
    exact (in_sound T g C ra rb e).2 q
  | is =>
    simp only at e
    split at e
    · cases e; simp only [VRel] at ra rb; subst ra; subst rb; exact is_none (q s.toks)
    · cases e; simp only [VRel] at ra rb; subst ra; subst rb; exact is_none (q s.toks)
    · cases e
  | lt =>
    simp only at e
    split at e
    · cases e; simp only [VRel] at ra rb; obtain ⟨t, rfl⟩ := ra; obtain ⟨u, rfl⟩ := rb; exact lt_int (q s.toks)
    · cases e
  | le =>
    simp only at e
    split at e
    · cases e; simp only [VRel] at ra rb; obtain ⟨t, rfl⟩ := ra; obtain ⟨u, rfl⟩ := rb; exact P.le_int (q s.toks)
    · cases e
  | gt =>
    simp only at e
    split at e
    · cases e; simp only [VRel] at ra rb; obtain ⟨t, rfl⟩ := ra; obtain ⟨u, rfl⟩ := rb; exact gt_int (q s.toks)
    · cases e
  | ge =>
    simp only at e
    split at e
    · cases e; simp only [VRel] at ra rb; obtain ⟨t, rfl⟩ := ra; obtain ⟨u, rfl⟩ := rb; exact P.ge_int (q s.toks)
    · cases e
/-- no set display behind in -/
noncomputable def notSet : Expr → Bool
  | .Set .. => false
  | _ => true
theorem marks_of {op : CmpOp} {e : Expr} (h : notSet e = true) : behindInMarks op e = false := by
  cases e <;> first | rfl | cases h
theorem SoundE.cmp {o : COp} {l r : Expr} {a b : X} {pos : Pos} {mg mb} (T : TopOK B G mg mb) (ha : SoundE prog w B vars S n kd l a) (hb : SoundE prog w B vars S n kd r b) (hs : notSet r = true := by rfl) :
    SoundE prog w B vars S n kd (.Compare l [o.real] [r] pos) (.cmp o a b) := by
  have key : ∀ (env : Env) A ρ σ s Q, env.kindOf = kd → Good A n → Sim prog w B vars env ρ σ s → wpE S (.cmp o a b) ρ σ Q →
      wpAny (model prog w) A (eval l env) (fun a s₁ => wpAny (model prog w) A (eval r env) (fun b s₂ => wpAny (model prog w) A (compareOp o.real a b) (fun c s₃ => ∃ t, c = .bool t ∧ Got prog w B vars env ρ σ s Q c s₃) (fun _ _ => False) s₂) (fun _ _ => False) s₁) (fun _ _ => False) s := by
    intro env A ρ σ s Q hk g M q
    dsimp only [we_var, we_cst, we_gl, we_bin, we_cmp, we_cmp2, we_and, we_or, we_not, we_sub, we_slc, we_rev, we_list, we_tup, we_dict0, we_dict1, we_comp, we_compIf, we_call, we_len, we_listOf, we_dictOf, we_tupleOf, we_isi, we_max2, we_minOf, we_sorted, we_rng1, we_rng2, we_append, we_insert0, we_pop, we_get1, we_get2] at q
    refine wpAny_mono (ha.ev env A ρ σ s _ hk g M q) (fun va s₁ h₁ => ?_) fun _ _ x => x
    obtain ⟨x, σ₁, rv, M₁, T₁, q₁⟩ := h₁
    refine wpAny_mono (hb.ev env A ρ σ₁ s₁ _ hk g M₁ q₁) (fun vb s₂ h₂ => ?_) fun _ _ x => x
    obtain ⟨y, σ₂, rv₂, M₂, T₂, t, ht, q₂⟩ := h₂
    exact cmp_sound T g M₂.core (rv.step M₁ T₂) rv₂ ht fun tk => ⟨t, rfl, (Got.tok (x := .bool t) M₂ rfl q₂).trans (T₁.trans T₂)⟩
  refine ⟨fun env A ρ σ s Q hk g M q => ?_, fun env A ρ σ s Q hk g M q => ?_⟩
  · refine wpAny_Compare1 (wpAny_mono (key env A ρ σ s Q hk g M q) (fun _ _ h₁ => wpAny_mono h₁ (fun _ _ h₂ => wpAny_mono h₂ (fun _ _ h₃ => ?_) fun _ _ x => x) fun _ _ x => x) fun _ _ x => x) (marks_of hs)
    obtain ⟨t, _, h⟩ := h₃; exact h
  · refine wpAny_isTrue_Compare1 (wpAny_mono (key env A ρ σ s _ hk g M q) (fun _ _ h₁ => wpAny_mono h₁ (fun _ _ h₂ => wpAny_mono h₂ (fun c s₃ h₃ => ?_) fun _ _ x => x) fun _ _ x => x) fun _ _ x => x) (marks_of hs)
    obtain ⟨t, rfl, x, σ', r', M', T', q'⟩ := h₃
    cases x with
    | bool b => simp only [VRel] at r'; cases r'; exact wpAny_truthy_bool ⟨σ', M', T', q'⟩
    | _ => exact q'.elim
end
end Mine

namespace Mine
open PySem PyProof.Rows

section
variable {prog : Program} {w : World} {B : Shared} {vars : List Str} {S : Spec} {n : Nat} {G : Gl} {kd : Str → Option NameKind} {env : Env} {ρ : Loc} {σ σ₁ : Store} {s s₁ s' : Shared} {A : Around}

theorem SoundE.bin {o : BOp} {op : Operator} {l r : Expr} {a b : X} {pos : Pos} (hop : (o, op) ∈ [(BOp.add, Operator.Add), (.sub, .Sub), (.mul, .Mult), (.fdiv, .FloorDiv), (.mod, .Mod)])
    (ha : SoundE prog w B vars S n kd l a) (hb : SoundE prog w B vars S n kd r b) : SoundE prog w B vars S n kd (.BinOp l op r pos) (.bin o a b) := by
  refine SoundE.of (fun _ => rfl) fun env A ρ σ s Q hk g M q => ?_
  dsimp only [we_var, we_cst, we_gl, we_bin, we_cmp, we_cmp2, we_and, we_or, we_not, we_sub, we_slc, we_rev, we_list, we_tup, we_dict0, we_dict1, we_comp, we_compIf, we_call, we_len, we_listOf, we_dictOf, we_tupleOf, we_isi, we_max2, we_minOf, we_sorted, we_rng1, we_rng2, we_append, we_insert0, we_pop, we_get1, we_get2] at q
  refine wpAny_BinOp (wpAny_mono (ha.ev env A ρ σ s _ hk g M q) (fun va s₁ h₁ => ?_) fun _ _ x => x)
  obtain ⟨x, σ₁, rv, M₁, T₁, q₁⟩ := h₁
  refine wpAny_mono (hb.ev env A ρ σ₁ s₁ _ hk g M₁ q₁) (fun vb s₂ h₂ => ?_) fun _ _ x => x
  obtain ⟨y, σ₂, rv₂, M₂, T₂, q₂⟩ := h₂
  exact wpAny_mono (bin_sound hop M₂ (rv.step M₁ T₂) rv₂ q₂) (fun _ _ h => h.trans (T₁.trans T₂)) fun _ _ x => x
theorem SoundE.cNeg {i : Int} {k : Nat} {p pos : Pos} : SoundE prog w B vars S n kd (.UnaryOp .USub (.Constant (.int i) k p) pos) (.cst (.int (-i))) := by
  refine SoundE.of (fun _ => rfl) fun env A ρ σ s Q _ _ M q => ?_
  refine UnaryOp_ (wpAny_Constant_int (neg_int ?_))
  exact (Got.tok (x := .int (-i)) (tk := s.toks + 1 + 1) M (by simp [VRel]) q)
theorem SoundE.not {e : Expr} {a : X} {pos : Pos} (ha : SoundE prog w B vars S n kd e a) : SoundE prog w B vars S n kd (.UnaryOp .Not e pos) (.not a) := by
  refine ⟨fun env A ρ σ s Q hk g M q => ?_, fun env A ρ σ s Q hk g M q => ?_⟩
  · dsimp only [we_var, we_cst, we_gl, we_bin, we_cmp, we_cmp2, we_and, we_or, we_not, we_sub, we_slc, we_rev, we_list, we_tup, we_dict0, we_dict1, we_comp, we_compIf, we_call, we_len, we_listOf, we_dictOf, we_tupleOf, we_isi, we_max2, we_minOf, we_sorted, we_rng1, we_rng2, we_append, we_insert0, we_pop, we_get1, we_get2] at q
    refine UnaryOp_ (wpAny_mono (ha.ev env A ρ σ s _ hk g M q) (fun va s₁ h₁ => ?_) fun _ _ x => x)
    obtain ⟨x, σ₁, rv, M₁, T₁, q₁⟩ := h₁
    cases x with
    | bool b => simp only [VRel] at rv; subst rv; exact not_of (wpAny_truthy_bool ⟨.bool !b, σ₁, rfl, M₁, T₁, q₁⟩)
    | _ => exact q₁.elim
  · dsimp only [we_var, we_cst, we_gl, we_bin, we_cmp, we_cmp2, we_and, we_or, we_not, we_sub, we_slc, we_rev, we_list, we_tup, we_dict0, we_dict1, we_comp, we_compIf, we_call, we_len, we_listOf, we_dictOf, we_tupleOf, we_isi, we_max2, we_minOf, we_sorted, we_rng1, we_rng2, we_append, we_insert0, we_pop, we_get1, we_get2] at q
    refine isTrue_not (wpAny_mono (ha.tr env A ρ σ s (fun t σ₁ => Q (!t) σ₁) hk g M q) (fun c s₁ h₁ => h₁) fun _ _ x => x)
/-- a run of and | or -/
structure SoundB (prog : Program) (w : World) (B : Shared) (vars : List Str) (S : Spec) (n : Nat) (kd : Str → Option NameKind) (op : BoolOp) (es : List Expr) (x : X) : Prop where
  ev : ∀ (env : Env) A ρ σ s Q, env.kindOf = kd → Good A n → Sim prog w B vars env ρ σ s → wpE S x ρ σ Q → ∀ pos,
    wpAny (model prog w) A (boolOp pos op (evalEach es env)) (Got prog w B vars env ρ σ s Q) (fun _ _ => False) s
  tr : ∀ (env : Env) A ρ σ s Q, env.kindOf = kd → Good A n → Sim prog w B vars env ρ σ s → wpE S x ρ σ (asBool Q) →
    wpAny (model prog w) A (allTrue op es env) (GotB prog w B vars env ρ σ s Q) (fun _ _ => False) s
theorem SoundE.boolop {op : BoolOp} {es : List Expr} {x : X} {pos : Pos} (h : SoundB prog w B vars S n kd op es x) : SoundE prog w B vars S n kd (.BoolOp op es pos) x :=
  ⟨fun env A ρ σ s Q hk g M q => by rw [arm_eval_BoolOp]; exact h.ev env A ρ σ s Q hk g M q pos, fun env A ρ σ s Q hk g M q => wpAny_isTrue_BoolOp (h.tr env A ρ σ s Q hk g M q)⟩
theorem SoundB.one {op : BoolOp} {e : Expr} {x : X} (h : SoundE prog w B vars S n kd e x) : SoundB prog w B vars S n kd op [e] x := by
  refine ⟨fun env A ρ σ s Q hk g M q pos => h.ev env A ρ σ s Q hk g M q, fun env A ρ σ s Q hk g M q => ?_⟩
  have := h.tr env A ρ σ s Q hk g M q
  cases op with
  | And => refine wpAny_allTrue_And_cons (wpAny_mono this (fun b s₁ h₁ => ?_) fun _ _ x => x); cases b <;> simp only [Bool.false_eq_true, if_false, if_true] <;> first | exact h₁ | exact wpAny_allTrue_And_nil h₁
  | Or => refine wpAny_allTrue_Or_cons (wpAny_mono this (fun b s₁ h₁ => ?_) fun _ _ x => x); cases b <;> simp only [Bool.false_eq_true, if_false, if_true] <;> first | exact h₁ | exact wpAny_allTrue_Or_nil h₁
theorem boolOp_cons {M : Model} {A : Around} {E : Value → Shared → Prop} {s : Shared} {pos : Pos} {op : BoolOp} {x y : Sem Value} {r : List (Sem Value)} {Q : Value → Shared → Prop}
    (h : wpAny M A x (fun v s₁ => ∃ t, v = .bool t ∧ if (match op with | .And => t | .Or => !t) = true then wpAny M A (boolOp pos op (y :: r)) Q E s₁ else Q v s₁) E s) : wpAny M A (boolOp pos op (x :: y :: r)) Q E s := by
  show wpAny M A (do
    let v ← x
    standAt pos
    let t ← holding [v] (truthy v)
    match op, t with
    | .And, false | .Or, true => pure v
    | _, _ => boolOp pos op (y :: r)) Q E s
  refine wpAny_bind (wpAny_mono h (fun v s₁ h₁ => wpAny_bind (wpAny_standAt ?_)) fun _ _ x => x)
  obtain ⟨t, rfl, h₁⟩ := h₁
  refine wpAny_bind (wpAny_holding (wpAny_truthy_bool ?_))
  cases op <;> cases t <;> first | exact wpAny_pure h₁ | exact h₁
theorem SoundB.and {e f : Expr} {es : List Expr} {a b : X} (h : SoundE prog w B vars S n kd e a) (r : SoundB prog w B vars S n kd .And (f :: es) b) : SoundB prog w B vars S n kd .And (e :: f :: es) (.and a b) := by
  refine ⟨fun env A ρ σ s Q hk g M q pos => ?_, fun env A ρ σ s Q hk g M q => ?_⟩
  · dsimp only [we_var, we_cst, we_gl, we_bin, we_cmp, we_cmp2, we_and, we_or, we_not, we_sub, we_slc, we_rev, we_list, we_tup, we_dict0, we_dict1, we_comp, we_compIf, we_call, we_len, we_listOf, we_dictOf, we_tupleOf, we_isi, we_max2, we_minOf, we_sorted, we_rng1, we_rng2, we_append, we_insert0, we_pop, we_get1, we_get2] at q
    refine boolOp_cons (wpAny_mono (h.ev env A ρ σ s _ hk g M q) (fun v s₁ h₁ => ?_) fun _ _ x => x)
    obtain ⟨x, σ₁, rv, M₁, T₁, q₁⟩ := h₁
    cases x with
    | bool t =>
      simp only [VRel] at rv; subst rv
      refine ⟨t, rfl, ?_⟩
      cases t with
      | false => exact ⟨.bool false, σ₁, rfl, M₁, T₁, q₁⟩
      | true => exact wpAny_mono (r.ev env A ρ σ₁ s₁ Q hk g M₁ q₁ pos) (fun _ _ h => h.trans T₁) fun _ _ x => x
    | _ => exact q₁.elim
  · dsimp only [we_var, we_cst, we_gl, we_bin, we_cmp, we_cmp2, we_and, we_or, we_not, we_sub, we_slc, we_rev, we_list, we_tup, we_dict0, we_dict1, we_comp, we_compIf, we_call, we_len, we_listOf, we_dictOf, we_tupleOf, we_isi, we_max2, we_minOf, we_sorted, we_rng1, we_rng2, we_append, we_insert0, we_pop, we_get1, we_get2] at q
    refine wpAny_allTrue_And_cons (wpAny_mono (h.tr env A ρ σ s _ hk g M q) (fun t s₁ h₁ => ?_) fun _ _ x => x)
    obtain ⟨σ₁, M₁, T₁, q₁⟩ := h₁
    cases t with
    | false => exact ⟨σ₁, M₁, T₁, q₁⟩
    | true => exact wpAny_mono (r.tr env A ρ σ₁ s₁ Q hk g M₁ q₁) (fun _ _ h => h.trans T₁) fun _ _ x => x
theorem SoundB.or {e f : Expr} {es : List Expr} {a b : X} (h : SoundE prog w B vars S n kd e a) (r : SoundB prog w B vars S n kd .Or (f :: es) b) : SoundB prog w B vars S n kd .Or (e :: f :: es) (.or a b) := by
  refine ⟨fun env A ρ σ s Q hk g M q pos => ?_, fun env A ρ σ s Q hk g M q => ?_⟩
  · dsimp only [we_var, we_cst, we_gl, we_bin, we_cmp, we_cmp2, we_and, we_or, we_not, we_sub, we_slc, we_rev, we_list, we_tup, we_dict0, we_dict1, we_comp, we_compIf, we_call, we_len, we_listOf, we_dictOf, we_tupleOf, we_isi, we_max2, we_minOf, we_sorted, we_rng1, we_rng2, we_append, we_insert0, we_pop, we_get1, we_get2] at q
    refine boolOp_cons (wpAny_mono (h.ev env A ρ σ s _ hk g M q) (fun v s₁ h₁ => ?_) fun _ _ x => x)
    obtain ⟨x, σ₁, rv, M₁, T₁, q₁⟩ := h₁
    cases x with
    | bool t =>
      simp only [VRel] at rv; subst rv
      refine ⟨t, rfl, ?_⟩
      cases t with
      | true => exact ⟨.bool true, σ₁, rfl, M₁, T₁, q₁⟩
      | false => exact wpAny_mono (r.ev env A ρ σ₁ s₁ Q hk g M₁ q₁ pos) (fun _ _ h => h.trans T₁) fun _ _ x => x
    | _ => exact q₁.elim
  · dsimp only [we_var, we_cst, we_gl, we_bin, we_cmp, we_cmp2, we_and, we_or, we_not, we_sub, we_slc, we_rev, we_list, we_tup, we_dict0, we_dict1, we_comp, we_compIf, we_call, we_len, we_listOf, we_dictOf, we_tupleOf, we_isi, we_max2, we_minOf, we_sorted, we_rng1, we_rng2, we_append, we_insert0, we_pop, we_get1, we_get2] at q
    refine wpAny_allTrue_Or_cons (wpAny_mono (h.tr env A ρ σ s _ hk g M q) (fun t s₁ h₁ => ?_) fun _ _ x => x)
    obtain ⟨σ₁, M₁, T₁, q₁⟩ := h₁
    cases t with
    | true => exact ⟨σ₁, M₁, T₁, q₁⟩
    | false => exact wpAny_mono (r.tr env A ρ σ₁ s₁ Q hk g M₁ q₁) (fun _ _ h => h.trans T₁) fun _ _ x => x
theorem SoundE.list {es : List Expr} {xs : List X} {pos : Pos} (h : SoundEs prog w B vars S n kd es xs) (hz : es.length ≤ 1000 := by decide) : SoundE prog w B vars S n kd (.List es pos) (.list xs) := by
  refine SoundE.of (fun _ => rfl) fun env A ρ σ s Q hk g M q => ?_
  dsimp only [we_var, we_cst, we_gl, we_bin, we_cmp, we_cmp2, we_and, we_or, we_not, we_sub, we_slc, we_rev, we_list, we_tup, we_dict0, we_dict1, we_comp, we_compIf, we_call, we_len, we_listOf, we_dictOf, we_tupleOf, we_isi, we_max2, we_minOf, we_sorted, we_rng1, we_rng2, we_append, we_insert0, we_pop, we_get1, we_get2] at q
  refine wpAny_List (wpAny_mono (h env A ρ σ s _ hk g M q pos) (fun vs s₁ h₁ => ?_) fun _ _ x => x)
  obtain ⟨hl, ys, σ₁, rs, M₁, T₁, q₁⟩ := h₁
  refine ⟨by rw [sizeLine_eq]; omega, ?_⟩
  exact (alloc_list (tk := s₁.toks) M₁ rs (by omega) q₁ (get_size _) (fun b o e => Heap.get?_push_of_some _ e) ⟨0, Heap.get?_push_size _ rfl⟩).trans T₁
theorem SoundE.tup {es : List Expr} {xs : List X} {k : Nat} {pos : Pos} (h : SoundEs prog w B vars S n kd es xs) (hz : es.length ≤ 1000 := by decide) : SoundE prog w B vars S n kd (.Tuple es k pos) (.tup xs) := by
  refine SoundE.of (fun _ => rfl) fun env A ρ σ s Q hk g M q => ?_
  dsimp only [we_var, we_cst, we_gl, we_bin, we_cmp, we_cmp2, we_and, we_or, we_not, we_sub, we_slc, we_rev, we_list, we_tup, we_dict0, we_dict1, we_comp, we_compIf, we_call, we_len, we_listOf, we_dictOf, we_tupleOf, we_isi, we_max2, we_minOf, we_sorted, we_rng1, we_rng2, we_append, we_insert0, we_pop, we_get1, we_get2] at q
  refine wpAny_Tuple (wpAny_mono (h env A ρ σ s _ hk g M q pos) (fun vs s₁ h₁ => ?_) fun _ _ x => x)
  obtain ⟨hl, ys, σ₁, rs, M₁, T₁, q₁⟩ := h₁
  refine ⟨by rw [sizeLine_eq]; omega, ?_⟩
  obtain ⟨M₂, T₂⟩ := M₁.keeps (h' := s₁.heap.push { cls := .type "tuple", data := .seq vs.toArray }) s₁.toks fun b o e => Heap.get?_push_of_some _ e
  refine ⟨.tup ys, σ₁, ?_, M₂, T₁.trans T₂, q₁⟩
  simp only [VRel]
  exact ⟨_, _, _, rfl, Heap.get?_push_size _ rfl, by simp; omega, by simpa using rs.step M₁ T₂⟩
theorem subs_any (slice : Expr) (o i : Value) : ∃ ops, subscripted slice false o i = operate ops (getItem o i) := by
  unfold subscripted
  split
  · exact ⟨_, rfl⟩
  · rename_i h; cases h
  · exact ⟨_, rfl⟩
theorem tail_any' {value slice : Expr} {o i : Value} {T id : String} {Q : Value → Shared → Prop} {E : Value → Shared → Prop} (hT : s.TypeIs o T) (hl : typeLookup (.type T) "__getitem__" = pure (some (.builtin id))) (hg : wpAny (model prog w) A (getItem o i) Q E s) :
    wpAny (model prog w) A (subscriptTail value slice o i) Q E s := by
  obtain ⟨ops, h⟩ := subs_any slice o i
  exact tail_any hT hl hg h
theorem idx_cases {l : List V} {i : Int} {x : V} (h : idxL l i = some x) (hz : l.length ≤ 16777216) : ∃ j : Nat, l[j]? = some x ∧ j < l.length ∧ ((0 ≤ i ∧ i = j) ∨ (i < 0 ∧ -(l.length : Int) ≤ i ∧ i + l.length = j)) := by
  unfold idxL at h
  split at h
  · refine ⟨i.toNat, h, ?_, .inl ⟨by assumption, by omega⟩⟩
    exact (List.getElem?_eq_some_iff.mp h).1
  · split at h
    · refine ⟨_, h, (List.getElem?_eq_some_iff.mp h).1, .inr ⟨by omega, by omega, by omega⟩⟩
    · cases h
theorem seqIndex_of {i : Int} {j n : Nat} (hj : j < n) (h : (0 ≤ i ∧ i = j) ∨ (i < 0 ∧ -(n : Int) ≤ i ∧ i + n = j)) : seqIndex? i n = some j := by
  unfold seqIndex?
  rcases h with ⟨h1, h2⟩ | ⟨h1, h2, h3⟩
  · have : ¬ i < 0 := by omega
    simp only [this, if_false]
    rw [if_pos (by simp; omega)]; congr; omega
  · simp only [h1, if_true]
    rw [if_pos (by simp; omega)]; congr; omega
theorem sub_sound {value slice : Expr} {o i : Value} {x y v : V} {Q : Post} {mg mb} (T : TopOK B G mg mb) (M : Sim prog w B vars env ρ σ s) (ro : VRel s.heap x o) (ri : VRel s.heap y i) (e : subV σ x y = some v) (q : Q v σ) :
    wpAny (model prog w) A (subscriptTail value slice o i) (Got prog w B vars env ρ σ s Q) (fun _ _ => False) s := by
  unfold subV at e
  split at e
  · simp only [VRel] at ro ri; obtain ⟨a, vs, k, rfl, g, z, rs⟩ := ro; obtain ⟨t, rfl⟩ := ri
    have hl := rs.length
    simp only [Array.length_toList] at hl
    obtain ⟨j, h1, h2, h3⟩ := idx_cases e (by omega)
    obtain ⟨u, h4, h5⟩ := rs.get h1
    have ht : IsTup s.heap a vs := ⟨_, g, rfl, k, rfl⟩
    refine tail_any' ht.typeIs slot_tuple_getitem.lookup (getItem_tuple (j := j) ht (by omega) (by omega) (seqIndex_of (by omega) (by rw [hl]; exact h3)) (by simpa using h4) (Got.here h5 M q))
  · simp only [VRel] at ro ri; obtain ⟨t, rfl⟩ := ro; obtain ⟨u, rfl⟩ := ri
    rename_i x i
    split at e
    · rename_i hi
      simp only [Option.map_eq_some_iff] at e
      obtain ⟨y, e, rfl⟩ := e
      simp only [strAt, Option.map_eq_some_iff] at e
      obtain ⟨c, e, rfl⟩ := e
      have hlt := (List.getElem?_eq_some_iff.mp e).1
      refine tail_any' (typeIs_str s x t) slot_str_getitem.lookup (getItem_str (c := c) (by simp; omega) ?_ (Got.tok (x := .str ⟨#[c]⟩) M (by simp [VRel]) q))
      rw [seqIndex_of (j := i.toNat) (by simpa [Str.length] using hlt) (.inl ⟨hi.1, by omega⟩)]
      simpa using e
    · cases e
  · simp only [VRel] at ro; subst ro
    split at e
    · simp only [VRel] at ri; obtain ⟨t, rfl⟩ := ri
      rename_i hp
      obtain ⟨vs, ⟨hpl, _⟩, z, rs⟩ := M.core.objs _ _ hp
      have hl := rs.length
      simp only [Array.length_toList] at hl
      obtain ⟨j, h1, h2, h3⟩ := idx_cases e (by omega)
      obtain ⟨u, h4, h5⟩ := rs.get h1
      refine tail_any' hpl.typeIs slot_list_getitem.lookup ?_
      rcases h3 with ⟨h3, h6⟩ | ⟨h3, h6, h7⟩
      · exact wpAny_getItem_list hpl h3 (by omega) (by rw [show Int.toNat _ = j from by omega]; simpa using h4) (Got.here h5 M q)
      · exact wpAny_getItem_list_neg hpl h3 (by omega) (by omega) (by rw [show Int.toNat _ = j from by omega]; simpa using h4) (Got.here h5 M q)
    · simp only [VRel] at ri; obtain ⟨t, rfl⟩ := ri
      rename_i hp
      obtain ⟨kvs, hd, hk, hv⟩ := M.core.objs _ _ hp
      rcases look_valueAt hk hv _ with ⟨h1, _⟩ | ⟨x', v', h1, h2, h3⟩
      · rw [h1] at e; cases e
      · rw [h1] at e; cases e
        exact tail_any' hd.typeIs slot_dict_getitem.lookup (wpAny_getItem_of (knd := PySem.strKind prog w) (by simp [PySem.strKind, Value.isStrOf]) hd.mapOf h2 (Got.tok M h3 q))
    · simp only [VRel] at ri; obtain ⟨t, rfl⟩ := ri
      rename_i hp
      obtain ⟨kvs, hd, hk, hv⟩ := M.core.objs _ _ hp
      rcases look_valueAt hk hv _ with ⟨h1, _⟩ | ⟨x', v', h1, h2, h3⟩
      · rw [h1] at e; cases e
      · rw [h1] at e; cases e
        exact tail_any' hd.typeIs slot_dict_getitem.lookup (wpAny_getItem_of (knd := PySem.intKind prog w) (by simp [PySem.intKind, Value.isInt]) hd.mapOf h2 (Got.tok M h3 q))
    · cases e
  · cases e
theorem SoundE.sub {l r : Expr} {a b : X} {pos : Pos} {mg mb} (T : TopOK B G mg mb) (ha : SoundE prog w B vars S n kd l a) (hb : SoundE prog w B vars S n kd r b) : SoundE prog w B vars S n kd (.Subscript l r pos) (.sub a b) := by
  refine SoundE.of (fun _ => rfl) fun env A ρ σ s Q hk g M q => ?_
  dsimp only [we_var, we_cst, we_gl, we_bin, we_cmp, we_cmp2, we_and, we_or, we_not, we_sub, we_slc, we_rev, we_list, we_tup, we_dict0, we_dict1, we_comp, we_compIf, we_call, we_len, we_listOf, we_dictOf, we_tupleOf, we_isi, we_max2, we_minOf, we_sorted, we_rng1, we_rng2, we_append, we_insert0, we_pop, we_get1, we_get2] at q
  refine Subscript_ (wpAny_mono (ha.ev env A ρ σ s _ hk g M q) (fun va s₁ h₁ => ?_) fun _ _ x => x)
  obtain ⟨x, σ₁, rv, M₁, T₁, q₁⟩ := h₁
  refine wpAny_mono (hb.ev env A ρ σ₁ s₁ _ hk g M₁ q₁) (fun vb s₂ h₂ => ?_) fun _ _ x => x
  obtain ⟨y, σ₂, rv₂, M₂, T₂, v, hv, q₂⟩ := h₂
  exact wpAny_mono (sub_sound T M₂ (rv.step M₁ T₂) rv₂ hv q₂) (fun _ _ h => h.trans (T₁.trans T₂)) fun _ _ x => x
end
end Mine

namespace Mine
open PySem PyProof.Rows

section
variable {prog : Program} {w : World} {B : Shared} {vars : List Str} {S : Spec} {n : Nat} {G : Gl} {kd : Str → Option NameKind} {env : Env} {ρ : Loc} {σ σ₁ : Store} {s s₁ s' : Shared} {A : Around}

/-- the name of a built-in -/
theorem name_bi {x : Str} {v : Value} {pos : Pos} {mg mb} {Q : Value → Shared → Prop} {E : Value → Shared → Prop} (T : TopOK B G mg mb) (M : Sim prog w B vars env ρ σ s) (hx : biTab.lookup x = some v) (hk : env.kindOf x = some .globalImplicit) (hd : (x == ("__debug__" : Str)) = false) (q : Q v s) :
    wpAny (model prog w) A (eval (.Name x pos) env) Q E s := by
  obtain ⟨h1, h2⟩ := T.bi x v hx
  refine Calls.Name_function_global M.frame.kind hk (Calls.loadGlobal_builtin (mg := mg) (mb := mb) ?_ h1 ?_ h2 q) hd
  · rw [M.frame.glob]; exact T.g.keeps M.core.base
  · rw [M.frame.bltn]; exact T.b.keeps M.core.base
theorem backTo_cons {pos : Pos} {e : Expr} {es : List Expr} {env : Env} (hs : starred e = false) : backTo pos (starEach (e :: es) env) = (false, eval e env) :: backTo pos (starEach es env) := by
  cases e <;> first | rfl | cases hs
theorem backTo_plain {pos : Pos} {env : Env} : ∀ {es : List Expr}, es.all (fun e => !starred e) = true → (backTo pos (starEach es env)).any (·.1) = false
  | [], _ => rfl
  | e :: es, h => by
    simp only [List.all_cons, Bool.and_eq_true, Bool.not_eq_true'] at h
    rw [backTo_cons h.1, List.any_cons, backTo_plain h.2]; rfl
/-- a built-in function or type called with plain arguments -/
theorem call_bi {x : Str} {f : Value} {p pos : Pos} {es : List Expr} {xs : List X} {mg mb} {Q : Post} {Q' : List V → Store → Prop} (T : TopOK B G mg mb) (g : Good A n) (hk : env.kindOf = kd) (M : Sim prog w B vars env ρ σ s) (hx : biTab.lookup x = some f)
    (hkx : kd x = some .globalImplicit) (hd : (x == ("__debug__" : Str)) = false) (hne : es ≠ []) (hst : es.all (fun e => !starred e) = true) (h : SoundEs prog w B vars S n kd es xs) (q : wpEs S xs ρ σ Q')
    (hc : ∀ ys vs σ₁ s₁, VRels s₁.heap ys vs → Sim prog w B vars env ρ σ₁ s₁ → Q' ys σ₁ → wpAny (model prog w) A (call f vs) (Got prog w B vars env ρ σ₁ s₁ Q) (fun _ _ => False) s₁) (hf : (∃ id, f = .builtin id) ∨ ∃ t, f = .type t) :
    wpAny (model prog w) A (eval (.Call (.Name x p) es [] pos) env) (Got prog w B vars env ρ σ s Q) (fun _ _ => False) s := by
  show wpAny _ A (do callWith pos (← eval (.Name x p) env) [] (backTo pos (starEach es env)) (backToKw pos (keywordEach [] env))) _ _ s
  refine wpAny_bind (name_bi T M hx (by rw [hk]; exact hkx) hd ?_)
  show wpAny _ A (callWith pos f [] (backTo pos (starEach es env)) []) _ _ s
  have args : wpAny (model prog w) A (evalArgs f true (backTo pos (starEach es env)) []) (fun a s₁ => wpAny (model prog w) A (call f ([] ++ a.pos) a.kw) (Got prog w B vars env ρ σ s Q) (fun _ _ => False) s₁) (fun _ _ => False) s := by
    cases es with
    | nil => exact absurd rfl hne
    | cons e es =>
      have hs : starred e = false := by simpa using (List.all_eq_true.mp hst e (.head _))
      have := h env A ρ σ s _ hk g M q pos
      rw [backTo_cons hs] at this ⊢
      refine Calls.evalArgs_plain (wpAny_mono this (fun vs s₁ h₁ => ?_) fun _ _ x => x)
      obtain ⟨_, ys, σ₁, rs, M₁, T₁, q₁⟩ := h₁
      exact wpAny_mono (hc ys vs σ₁ s₁ rs M₁ q₁) (fun _ _ h => h.trans T₁) fun _ _ x => x
  rcases hf with ⟨id, rfl⟩ | ⟨t, rfl⟩
  · exact Calls.callWith_builtin (backTo_plain hst) args
  · exact PySem.callWith_type (backTo_plain hst) args
theorem VRels.one' {h : Heap} {x : V} {vs : List Value} (r : VRels h [x] vs) : ∃ v, vs = [v] ∧ VRel h x v := by
  simp only [VRels] at r
  obtain ⟨v, r, rfl, a, rfl⟩ := r
  exact ⟨v, rfl, a⟩
theorem VRels.two' {h : Heap} {x y : V} {vs : List Value} (r : VRels h [x, y] vs) : ∃ v u, vs = [v, u] ∧ VRel h x v ∧ VRel h y u := by
  simp only [VRels] at r
  obtain ⟨v, r, rfl, a, u, r', rfl, b, rfl⟩ := r
  exact ⟨v, u, rfl, a, b⟩
theorem not_debug {x : Str} (h : ∃ v, biTab.lookup x = some v) : (x == ("__debug__" : Str)) = false := by
  cases e : x == ("__debug__" : Str) with
  | false => rfl
  | true =>
    obtain ⟨v, h⟩ := h
    rw [beq_iff_eq.mp e] at h
    exact absurd h (by rw [show biTab.lookup ("__debug__" : Str) = none from by decide +kernel]; exact fun q => nomatch q)
theorem SoundE.call1 {x : Str} {f : Value} {p pos : Pos} {e : Expr} {a r : X} {mg mb} (T : TopOK B G mg mb) (hx : biTab.lookup x = some f) (hkx : kd x = some .globalImplicit) (hs : starred e = false) (h : SoundE prog w B vars S n kd e a)
    (hf : (∃ id, f = .builtin id) ∨ ∃ t, f = .type t) (K : V → Store → Post → Prop) (hr : ∀ ρ σ Q, wpE S r ρ σ Q → wpE S a ρ σ (fun v σ₁ => K v σ₁ Q))
    (hc : ∀ (env : Env) A ρ y v σ₁ s₁ Q, Good A n → VRel s₁.heap y v → Sim prog w B vars env ρ σ₁ s₁ → K y σ₁ Q → wpAny (model prog w) A (call f [v]) (Got prog w B vars env ρ σ₁ s₁ Q) (fun _ _ => False) s₁) :
    SoundE prog w B vars S n kd (.Call (.Name x p) [e] [] pos) r := by
  refine SoundE.of (fun _ => rfl) fun env A ρ σ s Q hk g M q => ?_
  refine call_bi (xs := [a]) (Q' := fun ys σ₁ => match ys with | [y] => K y σ₁ Q | _ => False) T g hk M hx hkx (not_debug ⟨_, hx⟩) (by simp) (by simp [hs]) (SoundEs.cons h .nil hs) ?_ (fun ys vs σ₁ s₁ rs M₁ q₁ => ?_) hf
  · dsimp only [we_nil, we_cons]
    exact hr ρ σ Q q
  · match ys, q₁ with
    | [y], q₁ =>
      obtain ⟨v, rfl, rv⟩ := rs.one'
      exact hc env A ρ y v σ₁ s₁ Q g rv M₁ q₁
theorem SoundE.call2 {x : Str} {f : Value} {p pos : Pos} {e e' : Expr} {a b r : X} {mg mb} (T : TopOK B G mg mb) (hx : biTab.lookup x = some f) (hkx : kd x = some .globalImplicit) (hs : starred e = false) (hs' : starred e' = false) (h : SoundE prog w B vars S n kd e a) (h' : SoundE prog w B vars S n kd e' b)
    (hf : (∃ id, f = .builtin id) ∨ ∃ t, f = .type t) (K : V → V → Store → Post → Prop) (hr : ∀ ρ σ Q, wpE S r ρ σ Q → wpE S a ρ σ (fun v σ₁ => wpE S b ρ σ₁ fun u σ₂ => K v u σ₂ Q))
    (hc : ∀ (env : Env) A ρ y z v u σ₁ s₁ Q, Good A n → VRel s₁.heap y v → VRel s₁.heap z u → Sim prog w B vars env ρ σ₁ s₁ → K y z σ₁ Q → wpAny (model prog w) A (call f [v, u]) (Got prog w B vars env ρ σ₁ s₁ Q) (fun _ _ => False) s₁) :
    SoundE prog w B vars S n kd (.Call (.Name x p) [e, e'] [] pos) r := by
  refine SoundE.of (fun _ => rfl) fun env A ρ σ s Q hk g M q => ?_
  refine call_bi (xs := [a, b]) (Q' := fun ys σ₁ => match ys with | [y, z] => K y z σ₁ Q | _ => False) T g hk M hx hkx (not_debug ⟨_, hx⟩) (by simp) (by simp [hs, hs']) (SoundEs.cons h (SoundEs.cons h' .nil hs') hs) ?_ (fun ys vs σ₁ s₁ rs M₁ q₁ => ?_) hf
  · dsimp only [we_nil, we_cons]
    exact hr ρ σ Q q
  · match ys, q₁ with
    | [y, z], q₁ =>
      obtain ⟨v, u, rfl, rv, ru⟩ := rs.two'
      exact hc env A ρ y z v u σ₁ s₁ Q g rv ru M₁ q₁
theorem Got.toks {Q : Post} {v : Value} {x : V} {tk : Nat} (M : Sim prog w B vars env ρ σ s) (h : VRel s.heap x v) (q : Q x σ) : Got prog w B vars env ρ σ s Q v { s with toks := tk } := Got.tok M h q
/-- nothing lost, a plain value -/
theorem Got.grown {Q : Post} {v : Value} {x : V} {h' : Heap} {tk : Nat} (M : Sim prog w B vars env ρ σ s) (hk : ∀ b o, s.heap.get? b = some o → h'.get? b = some o) (h : VRel h' x v) (q : Q x σ) : Got prog w B vars env ρ σ s Q v { s with heap := h', toks := tk } := by
  obtain ⟨M', T'⟩ := M.keeps tk hk
  exact ⟨x, σ, h, M', T', q⟩
theorem SoundE.len {p pos : Pos} {e : Expr} {a : X} {mg mb} (T : TopOK B G mg mb) (hkx : kd "len" = some .globalImplicit) (h : SoundE prog w B vars S n kd e a) (hs : starred e = false := by rfl) : SoundE prog w B vars S n kd (.Call (.Name "len" p) [e] [] pos) (.len a) := by
  refine SoundE.call1 T (f := .builtin "len") (by decide +kernel) hkx hs h (.inl ⟨_, rfl⟩) (fun va σ₁ Q => ∃ n, lenV σ₁ va = some n ∧ n ≤ 1000000 ∧ Q (.int n) σ₁) (fun _ _ _ q => q) fun env A ρ y v σ₁ s₁ Q g rv M q => ?_
  obtain ⟨k, e, hk, q⟩ := q
  unfold lenV at e
  split at e
  · cases e
    simp only [VRel] at rv
    obtain ⟨a, vs, m, rfl, gg, z, rs⟩ := rv
    have hl := rs.length
    simp only [Array.length_toList] at hl
    exact len_tuple (items := vs) ⟨_, gg, rfl, m, rfl⟩ (by omega) (Got.tok (x := .int _) M (by rw [hl]; simp [VRel]) q)
  · cases e
    simp only [VRel] at rv
    obtain ⟨t, rfl⟩ := rv
    exact len_str (by omega) (Got.tok (x := .int _) M (by simp [VRel]) q)
  · simp only [VRel] at rv; subst rv
    split at e
    · rename_i hp
      cases e
      obtain ⟨vs, ⟨hpl, _⟩, z, rs⟩ := M.core.objs _ _ hp
      have hl := rs.length
      simp only [Array.length_toList] at hl
      exact Calls.call_len_list hpl (by omega) (Got.tok (x := .int _) M (by rw [hl]; simp [VRel]) q)
    · rename_i hp
      cases e
      obtain ⟨kvs, hd, hkk, hv⟩ := M.core.objs _ _ hp
      have hl := congrArg List.length hkk
      simp only [List.length_map] at hl
      exact call_len_dict (M.core.notMods T hp rfl) hd (by omega) (Got.tok (x := .int _) M (by rw [hl]; simp [VRel]) q)
    · rename_i hp
      cases e
      obtain ⟨kvs, hd, hkk, hv⟩ := M.core.objs _ _ hp
      have hl := congrArg List.length hkk
      simp only [List.length_map] at hl
      exact call_len_dict (M.core.notMods T hp rfl) hd (by omega) (Got.tok (x := .int _) M (by rw [hl]; simp [VRel]) q)
    · cases e
  · cases e
theorem SoundE.rng1 {p pos : Pos} {e : Expr} {a : X} {mg mb} (T : TopOK B G mg mb) (hkx : kd "range" = some .globalImplicit) (h : SoundE prog w B vars S n kd e a) (hs : starred e = false := by rfl) : SoundE prog w B vars S n kd (.Call (.Name "range" p) [e] [] pos) (.rng1 a) := by
  refine SoundE.call1 T (f := .type "range") (by decide +kernel) hkx hs h (.inr ⟨_, rfl⟩) (fun vb σ₁ Q => ∃ j, vb = .int j ∧ Q (.rng 0 j) σ₁) (fun _ _ _ q => q) fun env A ρ y v σ₁ s₁ Q g rv M q => ?_
  obtain ⟨j, rfl, q⟩ := q
  simp only [VRel] at rv
  obtain ⟨t, rfl⟩ := rv
  refine call_range_1 (Got.grown (x := .rng 0 j) M (fun b o e => Heap.get?_push_of_some _ e) ?_ q)
  simp only [VRel]
  exact ⟨_, _, _, _, rfl, Heap.get?_push_size _ rfl⟩
theorem SoundE.max2 {p pos : Pos} {e e' : Expr} {a b : X} {mg mb} (T : TopOK B G mg mb) (hkx : kd "max" = some .globalImplicit) (h : SoundE prog w B vars S n kd e a) (h' : SoundE prog w B vars S n kd e' b) (hs : starred e = false := by rfl) (hs' : starred e' = false := by rfl) : SoundE prog w B vars S n kd (.Call (.Name "max" p) [e, e'] [] pos) (.max2 a b) := by
  refine SoundE.call2 T (f := .builtin "max") (by decide +kernel) hkx hs hs' h h' (.inl ⟨_, rfl⟩) (fun va vb σ₁ Q => ∃ i j, va = .int i ∧ vb = .int j ∧ Q (.int (max i j)) σ₁) (fun _ _ _ q => q) fun env A ρ y z v u σ₁ s₁ Q g rv ru M q => ?_
  obtain ⟨i, j, rfl, rfl, q⟩ := q
  simp only [VRel] at rv ru
  obtain ⟨t, rfl⟩ := rv
  obtain ⟨t', rfl⟩ := ru
  refine max_two_ints g.hd fun h' tk hk => Got.grown (x := .int (max i j)) M hk ?_ q
  simp only [VRel]
  split
  · exact ⟨_, by rw [show max i j = j from by omega]⟩
  · exact ⟨_, by rw [show max i j = i from by omega]⟩
/-- the type's name -/
noncomputable def Ty.name : Ty → String
  | .int => "int" | .bool => "bool" | .str => "str" | .tuple => "tuple"
theorem SoundE.isi {p p' pos : Pos} {e : Expr} {a : X} {t : Ty} {x : Str} {mg mb} (T : TopOK B G mg mb) (hkx : kd "isinstance" = some .globalImplicit) (hx : biTab.lookup x = some (.type t.name)) (hkt : kd x = some .globalImplicit) (h : SoundE prog w B vars S n kd e a) (hs : starred e = false := by rfl) :
    SoundE prog w B vars S n kd (.Call (.Name "isinstance" p) [e, .Name x p'] [] pos) (.isi a t) := by
  refine SoundE.of (fun _ => rfl) fun env A ρ σ s Q hk g M q => ?_
  dsimp only [we_var, we_cst, we_gl, we_bin, we_cmp, we_cmp2, we_and, we_or, we_not, we_sub, we_slc, we_rev, we_list, we_tup, we_dict0, we_dict1, we_comp, we_compIf, we_call, we_len, we_listOf, we_dictOf, we_tupleOf, we_isi, we_max2, we_minOf, we_sorted, we_rng1, we_rng2, we_append, we_insert0, we_pop, we_get1, we_get2] at q
  show wpAny _ A (do callWith pos (← eval (.Name "isinstance" p) env) [] (backTo pos (starEach [e, .Name x p'] env)) (backToKw pos (keywordEach [] env))) _ _ s
  refine wpAny_bind (name_bi T M (v := .builtin "isinstance") (by decide +kernel) (by rw [hk]; exact hkx) (by decide +kernel) ?_)
  refine Calls.callWith_builtin (backTo_plain (by simp only [List.all_cons, hs]; rfl)) ?_
  rw [backTo_cons hs, backTo_cons (by rfl)]
  refine Calls.evalArgs_plain (Calls.spliced_cons (wpAny_mono (h.ev env A ρ σ s _ hk g M q) (fun v s₁ h₁ => ?_) fun _ _ x => x))
  obtain ⟨y, σ₁, rv, M₁, T₁, r, hr, q₁⟩ := h₁
  refine Calls.spliced_cons (name_bi T M₁ (v := .type t.name) hx (by rw [hk]; exact hkt) (not_debug ⟨_, hx⟩) (Calls.spliced_nil ?_))
  refine wpAny_mono (Q := Got prog w B vars env ρ σ₁ s₁ Q) ?_ (fun _ _ h => h.trans T₁) fun _ _ x => x
  show wpAny _ A (call (.builtin "isinstance") [v, .type t.name]) _ _ s₁
  have G1 : ∀ b, r = b → Got prog w B vars env ρ σ₁ s₁ Q (.bool b) s₁ := fun b e => by subst e; exact Got.here (x := .bool r) rfl M₁ q₁
  have G2 : ∀ b, r = b → Got prog w B vars env ρ σ₁ s₁ Q (.bool b) { s₁ with toks := s₁.toks + 1 } := fun b e => by subst e; exact Got.tok (x := .bool r) M₁ rfl q₁
  unfold tyV at hr
  split at hr
  · cases hr; simp only [VRel] at rv; subst rv
    cases t <;> first | exact IsiPair.NoneType_int (G2 _ rfl) | exact IsiPair.NoneType_bool (G2 _ rfl) | exact IsiPair.NoneType_str (G2 _ rfl) | exact IsiPair.NoneType_tuple (G2 _ rfl) | exact IsiPair.NoneType_list (G2 _ rfl) | exact IsiPair.NoneType_dict (G2 _ rfl)
  · simp only [VRel] at rv; subst rv
    cases t <;> cases hr <;> first | exact IsiPair.bool_int (G1 _ rfl) | exact IsiPair.bool_bool (G1 _ rfl) | exact IsiPair.bool_str (G2 _ rfl) | exact IsiPair.bool_tuple (G2 _ rfl) | exact IsiPair.bool_list (G2 _ rfl) | exact IsiPair.bool_dict (G2 _ rfl)
  · simp only [VRel] at rv; obtain ⟨tk, rfl⟩ := rv
    cases t <;> cases hr <;> first | exact IsiPair.int_int (G1 _ rfl) | exact IsiPair.int_bool (G2 _ rfl) | exact IsiPair.int_str (G2 _ rfl) | exact IsiPair.int_tuple (G2 _ rfl) | exact IsiPair.int_list (G2 _ rfl) | exact IsiPair.int_dict (G2 _ rfl)
  · simp only [VRel] at rv; obtain ⟨tk, rfl⟩ := rv
    cases t <;> cases hr <;> first | exact IsiPair.str_int (G2 _ rfl) | exact IsiPair.str_bool (G2 _ rfl) | exact IsiPair.str_str (G1 _ rfl) | exact IsiPair.str_tuple (G2 _ rfl) | exact IsiPair.str_list (G2 _ rfl) | exact IsiPair.str_dict (G2 _ rfl)
  · simp only [VRel] at rv; obtain ⟨a, vs, m, rfl, gg, z, rs⟩ := rv
    cases t <;> cases hr <;> first | exact IsiPair.tuple_int gg rfl (G2 _ rfl) | exact IsiPair.tuple_bool gg rfl (G2 _ rfl) | exact IsiPair.tuple_str gg rfl (G2 _ rfl) | exact IsiPair.tuple_tuple gg rfl (G1 _ rfl) | exact IsiPair.tuple_list gg rfl (G2 _ rfl) | exact IsiPair.tuple_dict gg rfl (G2 _ rfl)
  · simp only [VRel] at rv; subst rv
    split at hr
    · rename_i hp
      obtain ⟨vs, ⟨⟨o, gg, hcx, _⟩, _⟩, _, rs⟩ := M₁.core.objs _ _ hp
      cases t <;> cases hr <;> first | exact IsiPair.list_int gg hcx (G2 _ rfl) | exact IsiPair.list_bool gg hcx (G2 _ rfl) | exact IsiPair.list_str gg hcx (G2 _ rfl) | exact IsiPair.list_tuple gg hcx (G2 _ rfl) | exact IsiPair.list_list gg hcx (G1 _ rfl) | exact IsiPair.list_dict gg hcx (G2 _ rfl)
    · rename_i hp
      obtain ⟨kvs, ⟨o, es, ep, gg, hcx, _⟩, _⟩ := M₁.core.objs _ _ hp
      cases t <;> cases hr <;> first | exact IsiPair.dict_int gg hcx.1 (G2 _ rfl) | exact IsiPair.dict_bool gg hcx.1 (G2 _ rfl) | exact IsiPair.dict_str gg hcx.1 (G2 _ rfl) | exact IsiPair.dict_tuple gg hcx.1 (G2 _ rfl) | exact IsiPair.dict_list gg hcx.1 (G2 _ rfl) | exact IsiPair.dict_dict gg hcx.1 (G1 _ rfl)
    · rename_i hp
      obtain ⟨kvs, ⟨o, es, ep, gg, hcx, _⟩, _⟩ := M₁.core.objs _ _ hp
      cases t <;> cases hr <;> first | exact IsiPair.dict_int gg hcx.1 (G2 _ rfl) | exact IsiPair.dict_bool gg hcx.1 (G2 _ rfl) | exact IsiPair.dict_str gg hcx.1 (G2 _ rfl) | exact IsiPair.dict_tuple gg hcx.1 (G2 _ rfl) | exact IsiPair.dict_list gg hcx.1 (G2 _ rfl) | exact IsiPair.dict_dict gg hcx.1 (G1 _ rfl)
    · cases hr
  · cases hr
end
end Mine

namespace Mine
open PySem PyProof.Rows

section
variable {prog : Program} {w : World} {B : Shared} {vars : List Str} {S : Spec} {n : Nat} {G : Gl} {kd : Str → Option NameKind} {env : Env} {ρ : Loc} {σ σ₁ : Store} {s s₁ s' : Shared} {A : Around}

theorem rng_small {a b : Int} (h : -1000000 ≤ a ∧ a ≤ 1000000 ∧ -1000000 ≤ b ∧ b ≤ 1000000) : Builtin.Range.small a b 1 = true ∧ Builtin.Range.rangeSize a b 1 = ((b - a).toNat : Nat) := by
  have e : Builtin.Range.rangeSize a b 1 = ((b - a).toNat : Nat) := by
    unfold Builtin.Range.rangeSize
    simp
    split <;> omega
  refine ⟨?_, e⟩
  unfold Builtin.Range.small
  rw [e]
  unfold Builtin.Range.rangeFitsLong
  simp
  omega
theorem rngItems_length (a b : Int) : (rngItems a b).length = (b - a).toNat := by simp [rngItems]
theorem rngItems_get (a b : Int) {i : Nat} (h : i < (b - a).toNat) : (rngItems a b)[i]? = some (.int (a + i)) := by simp [rngItems, h]
theorem SoundE.listOf {p pos : Pos} {e : Expr} {a : X} {mg mb} (T : TopOK B G mg mb) (hkx : kd "list" = some .globalImplicit) (h : SoundE prog w B vars S n kd e a) (hs : starred e = false := by rfl) : SoundE prog w B vars S n kd (.Call (.Name "list" p) [e] [] pos) (.listOf a) := by
  refine SoundE.call1 T (f := .type "list") (by decide +kernel) hkx hs h (.inr ⟨_, rfl⟩) (fun va σ₁ Q => ∃ items, seqOf σ₁ va = some items ∧ items.length ≤ 1000000 ∧ fresh σ₁ (.list true items) Q) (fun _ _ _ q => q) fun env A ρ y v σ₁ s₁ Q g rv M q => ?_
  obtain ⟨items, e, hz, q⟩ := q
  unfold seqOf at e
  split at e
  · simp only [VRel] at rv; subst rv
    split at e
    · rename_i hp
      cases e
      obtain ⟨vs, ⟨⟨o, gg, hc, k, hdd⟩, _⟩, z, rs⟩ := M.core.objs _ _ hp
      refine call_list_seq _ (.inl rfl) gg hc hdd (fun h' c' hk hD => alloc_list (tk := s₁.toks) (vs := vs.toList) M rs (by simpa using z) q (get_size _) hk ⟨c', by simpa using hD⟩) (by rw [sizeLine_eq]; exact z)
    · cases e
  · split at e
    · cases e
      simp only [VRel] at rv
      obtain ⟨r, t, u, v', rfl, hr⟩ := rv
      rename_i hh
      have hsm := rng_small hh
      refine call_list_range g.hd hr hsm.1 hsm.2 (by omega) fun h' tk acc c' hk hD hacc => ?_
      refine alloc_list (vs := acc.toList) M ?_ (by have := hacc.1; simp; omega) q (get_size _) hk ⟨c', by simpa using hD⟩
      refine VRels.of_get (by simp [rngItems_length, hacc.1]) fun i x v h1 h2 => ?_
      have hi := (List.getElem?_eq_some_iff.mp h1).1
      rw [rngItems_length] at hi
      rw [rngItems_get _ _ hi] at h1; cases h1
      obtain ⟨t, rfl⟩ := hacc.2 i v (by simpa using h2)
      simp [VRel]
    · cases e
  · cases e
theorem SoundE.call {f : Str} {i : Nat} {a : Addr} {p pos : Pos} {es : List Expr} {xs : List X} {mg mb} (T : TopOK B G mg mb) (K : SpecOK prog w B S n G) (hf : G.fns.lookup f = some (i, a)) (hkf : kd f = some .globalImplicit) (hd : (f == ("__debug__" : Str)) = false)
    (h : SoundEs prog w B vars S n kd es xs) (hne : es ≠ []) (hst : es.all (fun e => !starred e) = true) : SoundE prog w B vars S n kd (.Call (.Name f p) es [] pos) (.call i xs) := by
  refine SoundE.of (fun _ => rfl) fun env A ρ σ s Q hk g M q => ?_
  dsimp only [we_var, we_cst, we_gl, we_bin, we_cmp, we_cmp2, we_and, we_or, we_not, we_sub, we_slc, we_rev, we_list, we_tup, we_dict0, we_dict1, we_comp, we_compIf, we_call, we_len, we_listOf, we_dictOf, we_tupleOf, we_isi, we_max2, we_minOf, we_sorted, we_rng1, we_rng2, we_append, we_insert0, we_pop, we_get1, we_get2] at q
  show wpAny _ A (do callWith pos (← eval (.Name f p) env) [] (backTo pos (starEach es env)) (backToKw pos (keywordEach [] env))) _ _ s
  obtain ⟨hm, o, fd, ho, hfd⟩ := T.fn f i a hf
  refine wpAny_bind (Calls.Name_function_global M.frame.kind (by rw [hk]; exact hkf) (Calls.loadGlobal_global (mg := mg) (by rw [M.frame.glob]; exact T.g.keeps M.core.base) hm ?_) hd)
  show wpAny _ A (callWith pos (.ref a) [] (backTo pos (starEach es env)) []) _ _ s
  refine Calls.callWith_function (o := o) (fd := fd) ?_
  cases es with
  | nil => exact absurd rfl hne
  | cons e es =>
    have hs : starred e = false := by simpa using (List.all_eq_true.mp hst e (.head _))
    have := h env A ρ σ s _ hk g M q pos
    rw [backTo_cons hs] at this ⊢
    refine Calls.evalArgs_plain (wpAny_mono this (fun vs s₁ h₁ => ?_) fun _ _ x => x)
    obtain ⟨_, ys, σ₁, rs, M₁, T₁, q₁⟩ := h₁
    refine ⟨⟨M₁.core.base _ _ ho, hfd⟩, wpAny_call (codeAny_mono (K f i a hf ys vs σ₁ s₁ Q A g M₁.core rs q₁) fun r s₂ h₂ => ?_)⟩
    obtain ⟨v, x, σ₂, rfl, rv, C, T₂, q₂⟩ := h₂
    obtain ⟨M₂, T₃⟩ := M₁.after T₂ C fun _ _ q => q.elim
    exact ⟨x, σ₂, rv, M₂, T₁.trans T₃, q₂⟩
/-- the base of a method's call is no bare call -/
noncomputable def plainBase : Expr → Bool
  | .Name .. => true
  | .Subscript .. => true
  | _ => false
theorem base_of {o : Expr} {name : Str} {env : Env} (h : plainBase o = true) : attributeBase o name env (eval o env) = eval o env := by
  cases o <;> first | rfl | cases h
theorem few_of {args : List Expr} {pos : Pos} {env : Env} (hs : args.all (fun e => !starred e) = true) (hl : args.length < 20) : ((backTo pos (starEach args env)).all (fun x => !x.1) && (backToKw pos (keywordEach [] env)).all (fun x => x.1.isSome)
      && decide (args.length + ([] : List Keyword).length + (if ([] : List Keyword).isEmpty then 0 else 1) < 30)) = true := by
  have h1 : (backTo pos (starEach args env)).all (fun x => !x.1) = true := by
    have := backTo_plain (pos := pos) (env := env) hs
    rw [List.all_eq_true]
    intro x hx
    rw [List.any_eq_false] at this
    simpa using this x hx
  rw [h1]
  simp only [Bool.true_and, Bool.and_eq_true, decide_eq_true_eq]
  exact ⟨rfl, by simp; omega⟩
theorem SoundE.append {o e : Expr} {a b : X} {apos pos : Pos} (ho : SoundE prog w B vars S n kd o a) (he : SoundE prog w B vars S n kd e b) (hb : plainBase o = true := by rfl) (hs : starred e = false := by rfl) (hl : (apos.endLine == pos.line) = true := by rfl) :
    SoundE prog w B vars S n kd (.Call (.Attribute o "append" apos) [e] [] pos) (.append a b) := by
  refine SoundE.of (fun _ => rfl) fun env A ρ σ s Q hk g M q => ?_
  dsimp only [we_var, we_cst, we_gl, we_bin, we_cmp, we_cmp2, we_and, we_or, we_not, we_sub, we_slc, we_rev, we_list, we_tup, we_dict0, we_dict1, we_comp, we_compIf, we_call, we_len, we_listOf, we_dictOf, we_tupleOf, we_isi, we_max2, we_minOf, we_sorted, we_rng1, we_rng2, we_append, we_insert0, we_pop, we_get1, we_get2] at q
  refine wpAny_Call_method (base_of hb) (few_of (by simp [hs]) (by simp)) hl F.plainAttrs_list F.slot_list_append F.type_list_append (wpAny_mono (ho.ev env A ρ σ s _ hk g M q) (fun ov s₁ h₁ => ?_) fun _ _ x => x)
  obtain ⟨x, σ₁, rv, M₁, T₁, p, l₀, rfl, hp, q₁⟩ := h₁
  simp only [VRel] at rv; subst rv
  obtain ⟨vs₀, ⟨_, hpl₀⟩, _, _⟩ := M₁.core.objs _ _ hp
  have hpl₀ := hpl₀ rfl
  refine ⟨hpl₀.isList.typeIs, fun c e => by cases e; obtain ⟨k, gg⟩ := hpl₀; exact ⟨_, gg, rfl⟩, ?_⟩
  rw [backTo_cons hs]
  refine P.append_list (wpAny_mono (he.ev env A ρ σ₁ s₁ _ hk g M₁ q₁) (fun v s₂ h₂ => ?_) fun _ _ x => x)
  obtain ⟨y, σ₂, rv₂, M₂, T₂, l, hl2, hz, q₂⟩ := h₂
  obtain ⟨vs, ⟨_, hpl⟩, z, rs⟩ := M₂.core.objs _ _ hl2
  obtain ⟨k, gg⟩ := hpl rfl
  have hlen := rs.length
  simp only [Array.length_toList] at hlen
  refine ⟨vs, k, by rw [sizeLine_eq]; omega, gg, ?_⟩
  have hu := Heap.get?_update_self (Obj.mapSeq fun xs => xs.push v) gg (by rw [Obj.mapSeq_push_plain]; rfl)
  rw [Obj.mapSeq_push_plain] at hu
  obtain ⟨M₃, T₃⟩ := M₂.set (o' := .list true (l ++ [y])) (h' := s₂.heap.update p (Obj.mapSeq fun xs => xs.push v)) s₂.toks hl2 rfl (fun b o hb e => by rw [Heap.get?_update_other _ _ (Ne.symm hb)]; exact e)
    ⟨vs.push v, ⟨(show Heap.PlainList _ _ _ from ⟨_, hu⟩).isList, fun _ => ⟨_, hu⟩⟩, by simp; omega, by
      rw [Array.toList_push]
      have ht : ∀ c o, s₂.heap.get? c = some o → tupLike o → (s₂.heap.update p (Obj.mapSeq fun xs => xs.push v)).get? c = some o := fun c o e ht => by
        rw [Heap.get?_update_other _ _ (fun q => by subst q; rw [gg] at e; cases e; revert ht; unfold tupLike; simp)]; exact e
      exact (rs.keep ht).append (.one (rv₂.keep ht))⟩
  exact ⟨.none, _, rfl, M₃, (T₁.trans T₂).trans T₃, q₂⟩
end
end Mine

namespace Mine
open PySem PyProof.Rows

section
variable {prog : Program} {w : World} {B : Shared} {vars : List Str} {S : Spec} {n : Nat} {G : Gl} {kd : Str → Option NameKind} {env : Env} {ρ : Loc} {σ σ₁ : Store} {s s₁ s' : Shared} {A : Around}

theorem VRels.drop {h : Heap} {l : List V} {vs : List Value} (r : VRels h l vs) (i : Nat) : VRels h (l.drop i) (vs.drop i) :=
  VRels.of_get (by simp [r.length]) fun j x v a b => by
    rw [List.getElem?_drop] at a b
    obtain ⟨v', h1, h2⟩ := r.get a
    rw [h1] at b; cases b; exact h2
theorem VRels.take {h : Heap} {l : List V} {vs : List Value} (r : VRels h l vs) (i : Nat) : VRels h (l.take i) (vs.take i) :=
  VRels.of_get (by simp [r.length]) fun j x v a b => by
    have hj : j < i := by
      have := (List.getElem?_eq_some_iff.mp a).1
      simp at this; omega
    rw [List.getElem?_take_of_lt hj] at a b
    obtain ⟨v', h1, h2⟩ := r.get a
    rw [h1] at b; cases b; exact h2
theorem VRels.reverse {h : Heap} : ∀ {l : List V} {vs : List Value}, VRels h l vs → VRels h l.reverse vs.reverse
  | [], _, e => by simp only [VRels] at e; subst e; exact .nil
  | _ :: _, _, e => by
    simp only [VRels] at e
    obtain ⟨v, r, rfl, a, b⟩ := e
    rw [List.reverse_cons, List.reverse_cons]
    exact (VRels.reverse b).append (.one a)
theorem SoundE.dict0 {pos : Pos} : SoundE prog w B vars S n kd (.Dict [] [] pos) .dict0 := by
  refine SoundE.of (fun _ => rfl) fun env A ρ σ s Q hk g M q => ?_
  dsimp only [we_var, we_cst, we_gl, we_bin, we_cmp, we_cmp2, we_and, we_or, we_not, we_sub, we_slc, we_rev, we_list, we_tup, we_dict0, we_dict1, we_comp, we_compIf, we_call, we_len, we_listOf, we_dictOf, we_tupleOf, we_isi, we_max2, we_minOf, we_sorted, we_rng1, we_rng2, we_append, we_insert0, we_pop, we_get1, we_get2] at q
  refine wpAny_Dict_empty ?_
  obtain ⟨M', T'⟩ := M.add (o' := .di true []) (h' := s.heap.push { cls := .type "dict", data := .dict #[] }) s.toks (get_size _) (fun b o e => Heap.get?_push_of_some _ e) ⟨[], Heap.DictOf.new s.heap, rfl, .nil⟩ (hdd := fun _ => M.core.size)
  exact ⟨.ref _, _, rfl, M', T', q _ (M.core.free (get_size _)).1⟩
theorem SoundE.dict1 {k v : Expr} {a b : X} {pos : Pos} (ha : SoundE prog w B vars S n kd k a) (hb : SoundE prog w B vars S n kd v b) : SoundE prog w B vars S n kd (.Dict [some k] [v] pos) (.dict1 a b) := by
  refine SoundE.of (fun _ => rfl) fun env A ρ σ s Q hk g M q => ?_
  dsimp only [we_var, we_cst, we_gl, we_bin, we_cmp, we_cmp2, we_and, we_or, we_not, we_sub, we_slc, we_rev, we_list, we_tup, we_dict0, we_dict1, we_comp, we_compIf, we_call, we_len, we_listOf, we_dictOf, we_tupleOf, we_isi, we_max2, we_minOf, we_sorted, we_rng1, we_rng2, we_append, we_insert0, we_pop, we_get1, we_get2] at q
  refine wpAny_Dict_walk (knd := PySem.strKind prog w) rfl rfl (by simp) (by simp) ?_
  obtain ⟨M₀, T₀⟩ := M.keeps (h' := s.heap.push { cls := .type "dict", data := .dict #[] }) s.toks fun b o e => Heap.get?_push_of_some _ e
  refine pairTrees_cons_walk (wpAny_mono (ha.ev env A ρ σ _ _ hk g M₀ q) (fun vk s₁ h₁ => ?_) fun _ _ x => x)
  obtain ⟨x, σ₁, rv, M₁, T₁, q₁⟩ := h₁
  refine wpAny_mono (hb.ev env A ρ σ₁ s₁ _ hk g M₁ q₁) (fun vv s₂ h₂ => pairTrees_nil_walk ?_) fun _ _ x => x
  obtain ⟨y, σ₂, rv₂, M₂, T₂, k', rfl, q₂⟩ := h₂
  simp only [VRel] at rv; obtain ⟨t, rfl⟩ := rv
  have hσ : σ s.heap.objs.size = none := (M.core.free (get_size _)).1
  have hown : ¬ Own env s.heap.objs.size := fun ho => by
    obtain ⟨o, e⟩ := M.frame.exists ho
    rw [get_size] at e; cases e
  have hd0 : (s.heap.push { cls := .type "dict", data := .dict #[] }).get? s.heap.objs.size = some { cls := .type "dict", data := .dict #[] } := Heap.get?_push_size _ rfl
  have T12 := T₁.trans T₂
  have hd2 := T12.keep _ _ hd0 (.of_none hσ) hown
  have hσ2 := T12.no _ _ hd0 hσ hown
  refine ⟨[(k', vv)], ⟨by simp [PySem.strKind, Value.isStrOf], rfl, trivial⟩, ⟨_, _, _, hd2, ⟨rfl, rfl, rfl⟩, rfl, fun e he => by simp at he, Pairs.nil, by simp⟩, fun h' hm hs => ?_⟩
  have hm' : h'.DictOf (PySem.strKind prog w) s.heap.objs.size [(k', vv)] := hm
  have hk' : ∀ b x, b ≠ s.heap.objs.size → s₂.heap.get? b = some x → h'.get? b = some x := fun b x hb e => hs.extBut b x hb e
  have hnt : ∀ o, s₂.heap.get? s.heap.objs.size = some o → ¬ tupLike o := fun o e => by rw [hd2] at e; cases e; unfold tupLike; simp
  have ht : ∀ c o, s₂.heap.get? c = some o → tupLike o → h'.get? c = some o := fun c o e ht => hk' c o (fun q => by subst q; exact hnt o e ht) e
  have M₃ := M₂.adopt (o' := .ds true [(k', y)]) (h' := h') (s₂.toks + 1) hσ2 (M.core.free (get_size _)).2 hown hnt hk' ⟨_, hm', rfl, .one (rv₂.keep ht)⟩ (hdd := fun _ => M.core.size)
  refine ⟨.ref _, _, rfl, M₃, ?_, q₂ _ hσ2⟩
  refine Step.seal (p := s.heap.objs.size) ((((T₀.trans T12).more fun a q => .inl q)).trans (Step.adopt hk')) (get_size _)
noncomputable def partOf : V → Option (Option Int)
  | .none => some none
  | .int i => some (some i)
  | _ => none
theorem cut_part {v : V} {k d r : Nat} (h : cutAt k d v = some r) : ∃ o, partOf v = some o ∧ (match o with
    | none => ((d : Nat) : Int)
    | some i => max 0 (min (if i < 0 then i + (k : Int) else i) (k : Int))) = ((r : Nat) : Int) := by
  cases v <;> simp only [cutAt] at h <;> cases h
  · exact ⟨none, rfl, rfl⟩
  · refine ⟨some _, rfl, ?_⟩
    simp only
    split <;> split <;> omega
theorem cut_bounds {l h : V} {i j k : Nat} (hl : cutAt k 0 l = some i) (hh : cutAt k k h = some j) : ∃ lo hi, partOf l = some lo ∧ partOf h = some hi ∧ sliceBounds lo hi none k = ((i : Int), (j : Int), 1) := by
  obtain ⟨lo, a1, a2⟩ := cut_part hl
  obtain ⟨hi, b1, b2⟩ := cut_part hh
  refine ⟨lo, hi, a1, b1, ?_⟩
  unfold sliceBounds
  simp only [Option.getD_none, Int.one_pos, gt_iff_lt, if_true]
  refine Prod.ext ?_ (Prod.ext ?_ rfl)
  · cases lo <;> simpa using a2
  · cases hi <;> simpa using b2
theorem part_is {h : Heap} {v : V} {u : Value} {o : Option Int} (e : partOf v = some o) (r : VRel h v u) : IsPart u o := by
  cases v <;> simp only [partOf] at e <;> cases e <;> simp only [VRel] at r
  · subst r; exact .none
  · obtain ⟨t, rfl⟩ := r; exact .int _ t
/-- an end of a cut, or none -/
inductive SoundP (prog : Program) (w : World) (B : Shared) (vars : List Str) (S : Spec) (n : Nat) (kd : Str → Option NameKind) : Option Expr → X → Prop
  | none : SoundP prog w B vars S n kd none (.cst .none)
  | some {e : Expr} {a : X} : SoundE prog w B vars S n kd e a → SoundP prog w B vars S n kd (some e) a
theorem SoundP.ev {o : Option Expr} {a : X} (h : SoundP prog w B vars S n kd o a) {env : Env} {A ρ σ s Q} (hk : env.kindOf = kd) (g : Good A n) (M : Sim prog w B vars env ρ σ s) (q : wpE S a ρ σ Q) :
    wpAny (model prog w) A (evalPart o env) (Got prog w B vars env ρ σ s Q) (fun _ _ => False) s := by
  cases h with
  | none => dsimp only [we_var, we_cst, we_gl, we_bin, we_cmp, we_cmp2, we_and, we_or, we_not, we_sub, we_slc, we_rev, we_list, we_tup, we_dict0, we_dict1, we_comp, we_compIf, we_call, we_len, we_listOf, we_dictOf, we_tupleOf, we_isi, we_max2, we_minOf, we_sorted, we_rng1, we_rng2, we_append, we_insert0, we_pop, we_get1, we_get2] at q; exact wpAny_pure (a := Value.none) (Got.here (x := .none) rfl M q)
  | some h => exact h.ev env A ρ σ s Q hk g M q
theorem SoundE.slc {e : Expr} {lo hi : Option Expr} {a b c : X} {p pos : Pos} (ha : SoundE prog w B vars S n kd e a) (hb : SoundP prog w B vars S n kd lo b) (hc : SoundP prog w B vars S n kd hi c) : SoundE prog w B vars S n kd (.Subscript e (.Slice lo hi none p) pos) (.slc a b c) := by
  refine SoundE.of (fun _ => rfl) fun env A ρ σ s Q hk g M q => ?_
  dsimp only [we_var, we_cst, we_gl, we_bin, we_cmp, we_cmp2, we_and, we_or, we_not, we_sub, we_slc, we_rev, we_list, we_tup, we_dict0, we_dict1, we_comp, we_compIf, we_call, we_len, we_listOf, we_dictOf, we_tupleOf, we_isi, we_max2, we_minOf, we_sorted, we_rng1, we_rng2, we_append, we_insert0, we_pop, we_get1, we_get2] at q
  refine Subscript_ (wpAny_mono (ha.ev env A ρ σ s _ hk g M q) (fun va s₁ h₁ => ?_) fun _ _ x => x)
  obtain ⟨x, σ₁, rv, M₁, T₁, q₁⟩ := h₁
  refine wpAny_Slice (wpAny_mono (hb.ev hk g M₁ q₁) (fun vl s₂ h₂ => ?_) fun _ _ x => x)
  obtain ⟨y, σ₂, rv₂, M₂, T₂, q₂⟩ := h₂
  refine wpAny_mono (hc.ev hk g M₂ q₂) (fun vh s₃ h₃ => wpAny_pure ?_) fun _ _ x => x
  obtain ⟨z, σ₃, rv₃, M₃, T₃, p', m, l, i, j, rfl, hp, hz, hi, hj, q₃⟩ := h₃
  simp only [VRel] at rv; subst rv
  obtain ⟨M₄, T₄⟩ := M₃.keeps (h' := s₃.heap.push { cls := .type "slice", data := .fields #[vl, vh, .none] }) s₃.toks fun b o e => Heap.get?_push_of_some _ e
  obtain ⟨vs, ⟨hl, _⟩, hsz, rs⟩ := M₄.core.objs _ _ hp
  have hlen := rs.length
  simp only [Array.length_toList] at hlen
  obtain ⟨lo', hi', e1, e2, e3⟩ := cut_bounds hi hj
  refine tail_any' hl.typeIs slot_list_getitem.lookup (wpAny_getItem_list_slice hl (Heap.IsSliceOf.new _ _ _ _) (part_is e1 (rv₂.step M₂ T₃)) (part_is e2 rv₃) .none (by simp) ?_ (by rw [sizeLine_eq]; omega))
  rw [PySem.W.kmk_pick_nat vs (by rw [hlen]; exact e3)]
  exact (alloc_list (tk := s₃.toks) (vs := (vs.toList.drop i).take (j - i)) M₄ ((rs.drop i).take (j - i)) (by simp; omega) q₃ (get_size _) (fun b o e => Heap.get?_push_of_some _ e) ⟨0, Heap.get?_push_size _ rfl⟩).trans (((T₁.trans T₂).trans T₃).trans T₄)
end
end Mine

namespace Mine
open PySem PyProof.Rows

section
variable {prog : Program} {w : World} {B : Shared} {vars : List Str} {S : Spec} {n : Nat} {G : Gl} {kd : Str → Option NameKind} {env : Env} {ρ ρ' : Loc} {σ σ₁ : Store} {s s₁ s' : Shared} {A : Around}

theorem Sim.move (M : Sim prog w B vars env ρ σ s) (W : Addr → Prop) {h' : Heap} (tk : Nat) (hk : ∀ b o, ¬ W b → s.heap.get? b = some o → h'.get? b = some o)
    (hW : ∀ a, W a → σ a = none ∧ B.heap.get? a = none ∧ ¬ Own env a ∧ ∀ o, s.heap.get? a = some o → ¬ tupLike o) : Sim prog w B vars env ρ σ { s with heap := h', toks := tk } :=
  ⟨M.core.move W tk hk fun a o q e => ⟨(hW a q).1, (hW a q).2.1, (hW a q).2.2.2 o e⟩,
    M.frame.kept (fun a o ha e => hk a o (fun q => (hW a q).2.2.1 ha) e) (fun a o e ht => hk a o (fun q => (hW a q).2.2.2 o e ht) e) fun a ha => (M.frame.own a ha).1⟩
/-- an iterator over so many items: fp is what it leans on, wr what it turns -/
structure Iter (prog : Program) (w : World) (B : Shared) (I : Addr) (fp wr : List Addr) (items : List V) (ok : Store → Prop) (St : Nat → Heap → Prop) : Prop where
  sub : ∀ b ∈ wr, b ∈ fp
  frame : ∀ k h h', St k h → (∀ b ∈ fp, ∀ o, h.get? b = some o → h'.get? b = some o) → St k h'
  live : ∀ k h b, St k h → b ∈ fp → ∃ o, h.get? b = some o
  loose : ∀ k h b o, St k h → b ∈ wr → h.get? b = some o → ¬ tupLike o
  next : ∀ (A : Around) (k : Nat) (x : V) (σ : Store) (s : Shared) (Q : Option Value → Shared → Prop) (E : Value → Shared → Prop), A.handled = none → items[k]? = some x → St k s.heap → Core prog w B σ s → ok σ →
    (∀ v h' tk, VRel h' x v → St (k + 1) h' → (∀ b o, b ∉ wr → s.heap.get? b = some o → h'.get? b = some o) → Q (some v) { s with heap := h', toks := tk }) → wpAny (model prog w) A (pyNext (.ref I)) Q E s
  done : ∀ (A : Around) (σ : Store) (s : Shared) (Q : Option Value → Shared → Prop) (E : Value → Shared → Prop), A.handled = none → St items.length s.heap → Core prog w B σ s → ok σ →
    (∀ h' tk, (∀ b o, b ∉ wr → s.heap.get? b = some o → h'.get? b = some o) → Q none { s with heap := h', toks := tk }) → wpAny (model prog w) A (pyNext (.ref I)) Q E s
  self : ∀ (A : Around) (k : Nat) (s : Shared) (Q : Value → Shared → Prop) (E : Value → Shared → Prop), A.handled = none → St k s.heap → Q (.ref I) s → wpAny (model prog w) A (pyIter (.ref I)) Q E s
  owned : ∀ (A : Around) (k : Nat) (v : Value) (t : Expr) (s : Shared) (Q : Unit → Shared → Prop) (E : Value → Shared → Prop), St (k + 1) s.heap →
    (∀ h' tk, St (k + 1) h' → (∀ b o, b ∉ wr → s.heap.get? b = some o → h'.get? b = some o) → Q () { s with heap := h', toks := tk }) → wpAny (model prog w) A (letOwnedTupleGo t (.ref I) v) Q E s
theorem owned_plain {M : Model} {A : Around} {E : Value → Shared → Prop} {s : Shared} {t : Expr} {I : Addr} {o : Obj} {T : String} {v : Value} {Q : Unit → Shared → Prop} (ho : s.heap.get? I = some o) (hc : o.cls = .type T)
    (hT : (["enumerate", "zip", "dict_itemiterator", "dict_reverseitemiterator", "odict_iterator", "itertools.zip_longest", "itertools.pairwise"] : List String).contains T = false) (q : Q () s) : wpAny M A (letOwnedTupleGo t (.ref I) v) Q E s := by
  have key : wpAny M A (do
    let (.ref r, .ref a) := ((Value.ref I, v) : Value × Value) | return
    let o ← load r
    match o.cls, o.data with
    | .type n, .fields vs =>
      if (["enumerate", "zip", "dict_itemiterator", "dict_reverseitemiterator", "odict_iterator", "itertools.zip_longest", "itertools.pairwise"] : List String).contains n && vs[0]? == some (rawInt a) then
        rule "for.unpacks-the-owned-tuple"
        updateField r 0 .none
    | _, _ => pure () : Sem Unit) Q E s := by
    cases v <;> try exact wpAny_pure q
    refine wpAny_bind (wpAny_load ho ?_)
    rw [hc]
    cases o.data <;> first | exact wpAny_pure q | skip
    simp only [hT, Bool.false_and, Bool.false_eq_true, if_false]
    exact wpAny_pure q
  cases t <;> first | exact key | exact wpAny_pure q
theorem Walks.iter {I : Addr} {fp wr : List Addr} {items : List V} {P : Nat → Value → Prop} {St : Nat → Heap → Prop} {T : String}
    (W : ∀ A' : Around, A'.handled = none → Walks prog w A' I fp wr items.length P St) (hI : I ∈ fp) (hw : wr = [I])
    (hP : ∀ k x v h, items[k]? = some x → P k v → VRel h x v) (hT : (["enumerate", "zip", "dict_itemiterator", "dict_reverseitemiterator", "odict_iterator", "itertools.zip_longest", "itertools.pairwise"] : List String).contains T = false)
    (hS : ∀ k h, St k h → ∃ o, h.get? I = some o ∧ o.cls = .type T) (hL : ∀ k h b, St k h → b ∈ fp → ∃ o, h.get? b = some o) (ht : T ≠ "tuple" ∧ T ≠ "range") : Iter prog w B I fp wr items (fun _ => True) St where
  sub b hb := by rw [hw] at hb; simp at hb; rw [hb]; exact hI
  frame := (W { } rfl).frame
  live := hL
  loose k h b o st hb e := by
    rw [hw] at hb; simp at hb; subst hb
    obtain ⟨o', e', hc⟩ := hS k h st
    rw [e'] at e; cases e
    unfold tupLike; simp [hc, ht.1, ht.2]
  next A k x σ s Q E hA hx st C _ q := by
    have hk : k < items.length := (List.getElem?_eq_some_iff.mp hx).1
    exact (W A hA).item k s Q E hk st fun v h' tk hv st' hk' => q v h' tk (hP k x v h' hx hv) st' hk'
  done A σ s Q E hA st C _ q := (W A hA).done s Q E st q
  self A k s Q E hA st q := (W A hA).self k s Q E st q
  owned A k v t s Q E st q := by
    obtain ⟨o, ho, hc⟩ := hS _ _ st
    exact owned_plain ho hc hT (q s.heap s.toks st fun _ _ _ e => e)
theorem Iter.list {a I : Addr} {l : List V} (hne : a ≠ I) : Iter prog w B I [I] [I] l (fun σ' => ∃ m', σ' a = some (.list m' l)) (fun k h => h.IsListIter I a k) where
  sub b hb := hb
  frame k h h' st hk := st.at fun o e => hk I (by simp) o e
  live k h b st hb := by simp at hb; subst hb; obtain ⟨o, ho, _⟩ := st; exact ⟨o, ho⟩
  loose k h b o st hb e := by
    simp at hb; subst hb
    obtain ⟨o', e', hc, _⟩ := st
    rw [e'] at e; cases e
    unfold tupLike; simp [hc]
  next A k x σ s Q E hA hx st C hok q := by
    obtain ⟨m', hm⟩ := hok
    obtain ⟨vs, ⟨hl, _⟩, _, rs⟩ := C.objs _ _ hm
    obtain ⟨v, hv, rv⟩ := rs.get hx
    refine wpAny_pyNext_list_item st hl (x := v) (by simpa using hv) fun h' st' hs => ?_
    refine q v h' s.toks (rv.keep fun c o e ht => hs.extBut c o (fun q => ?_) e) st' fun b o hb e => hs.extBut b o (by simpa using hb) e
    subst q
    obtain ⟨o', e', hc, _⟩ := st
    rw [e'] at e; cases e
    revert ht; unfold tupLike; simp [hc]
  done A σ s Q E hA st C hok q := by
    obtain ⟨m', hm⟩ := hok
    obtain ⟨vs, ⟨hl, _⟩, _, rs⟩ := C.objs _ _ hm
    have := rs.length
    exact wpAny_pyNext_list_end hA st hl (by simp at this; simp; omega) fun h' hs => q h' s.toks fun b o hb e => hs b o (by simpa using hb) e
  self A k s Q E hA st q := wpAny_pyIter_listiter st q
  owned A k v t s Q E st q := by
    obtain ⟨o, ho, hc, _⟩ := id st
    exact owned_plain ho hc (by decide) (q s.heap s.toks st fun _ _ _ e => e)
/-- what a loop goes over -/
theorem src_iter {x : V} {v : Value} {items : List V} {ok : Store → Prop} {Q : Value → Shared → Prop} {E : Value → Shared → Prop} (M : Core prog w B σ s) (rv : VRel s.heap x v) (hs : Src σ x items ok)
    (q : ∀ I St h' tk, s.heap.get? I = none → Iter prog w B I [I] [I] items ok St → St 0 h' → (∀ b o, s.heap.get? b = some o → h'.get? b = some o) → (∃ o, h'.get? I = some o) → ok σ → Q (.ref I) { s with heap := h', toks := tk }) : wpAny (model prog w) A (pyIter v) Q E s := by
  cases hs with
  | @list a m l hp =>
    simp only [VRel] at rv; subst rv
    obtain ⟨vs, ⟨hl, _⟩, _, rs⟩ := M.objs _ _ hp
    have hne : a ≠ s.heap.objs.size := by obtain ⟨o, ho, _⟩ := hl; exact Nat.ne_of_lt (Heap.lt_size ho)
    exact wpAny_pyIter_list hl (q _ _ _ s.toks (get_size _) (Iter.list hne) ⟨_, Heap.get?_push_size _ rfl, rfl, rfl⟩ (fun b o e => Heap.get?_push_of_some _ e) ⟨_, Heap.get?_push_size _ rfl⟩ ⟨m, hp⟩)
  | @rng a b hb =>
    simp only [VRel] at rv
    obtain ⟨r, t, u, v', rfl, hr⟩ := rv
    have hsm := rng_small hb
    refine wpAny_pyIter_range hr hsm.1 (q _ (fun i h => IsRangeIter h s.heap.objs.size (a + (i : Nat) * 1) (((b - a).toNat : Int) - (i : Nat)) 1) _ s.toks (get_size _) ?_ ?_ (fun b o e => Heap.get?_push_of_some _ e) ⟨_, Heap.get?_push_size _ rfl⟩ trivial)
    · refine Walks.iter (T := "range_iterator") (P := fun i v => ∃ t, v = .int (a + i * 1) t) (fun A' hA => by rw [rngItems_length]; exact Walks.range hA _ a 1 _) (by simp) rfl (fun k x v h hx hP => ?_) (by decide) (fun k h st => ⟨_, st, rfl⟩) (fun k h b st hb => by simp at hb; subst hb; exact ⟨_, st⟩) (by decide)
      obtain ⟨t, rfl⟩ := hP
      have hi := (List.getElem?_eq_some_iff.mp hx).1
      rw [rngItems_length] at hi
      rw [rngItems_get _ _ hi] at hx; cases hx
      simp [VRel]
    · show IsRangeIter _ _ _ _ _
      rw [hsm.2]
      simpa using Heap.get?_push_size _ rfl
  | @str x =>
    simp only [VRel] at rv
    obtain ⟨t, rfl⟩ := rv
    have hl : (strItems x).length = x.cps.size := by simp [strItems]
    have hP : ∀ k y v h, (strItems x)[k]? = some y → SignAt x k v → VRel h y v := fun k y v h hy hv => by
      obtain ⟨c, u, hc, rfl⟩ := hv
      simp only [strItems, List.getElem?_map, Array.getElem?_toList, hc, Option.map_some, Option.some.injEq] at hy
      subst hy; simp [VRel]
    cases ha : x.cps.all (· < 128)
    · refine wpAny_pyIter_wide ha (q _ (fun i h => h.IsStrIter s.heap.objs.size "str_iterator" x t i) _ s.toks (get_size _) ?_ ⟨_, Heap.get?_push_size _ rfl, rfl, rfl⟩ (fun b o e => Heap.get?_push_of_some _ e) ⟨_, Heap.get?_push_size _ rfl⟩ trivial)
      exact Walks.iter (T := "str_iterator") (P := SignAt x) (fun A' hA => by rw [hl]; exact Walks.strWide hA _ x t) (by simp) rfl hP (by decide) (fun k h st => let ⟨o, ho, hc, _⟩ := st; ⟨o, ho, hc⟩) (fun k h b st hb => by simp at hb; subst hb; obtain ⟨o, ho, _⟩ := st; exact ⟨o, ho⟩) (by decide)
    · refine wpAny_pyIter_ascii ha (q _ (fun i h => h.IsStrIter s.heap.objs.size "str_ascii_iterator" x t i) _ s.toks (get_size _) ?_ ⟨_, Heap.get?_push_size _ rfl, rfl, rfl⟩ (fun b o e => Heap.get?_push_of_some _ e) ⟨_, Heap.get?_push_size _ rfl⟩ trivial)
      exact Walks.iter (T := "str_ascii_iterator") (P := SignAt x) (fun A' hA => by rw [hl]; exact Walks.strAscii hA _ x t) (by simp) rfl hP (by decide) (fun k h st => let ⟨o, ho, hc, _⟩ := st; ⟨o, ho, hc⟩) (fun k h b st hb => by simp at hb; subst hb; obtain ⟨o, ho, _⟩ := st; exact ⟨o, ho⟩) (by decide)
/-- a name is stored -/
theorem store_sound {i : Nat} {x : Str} {y : V} {v : Value} {Q : Unit → Shared → Prop} {E : Value → Shared → Prop} (hn : vars.Nodup) (M : Sim prog w B vars env ρ σ s) (hx : vars[i]? = some x) (hk : env.kindOf x = some .local ∨ env.kindOf x = some .cell) (rv : VRel s.heap y v)
    (q : ∀ h' tk, Sim prog w B vars env (ρ.set i y) σ { s with heap := h', toks := tk } → (∀ b o, ¬ Own env b → s.heap.get? b = some o → h'.get? b = some o) → Q () { s with heap := h', toks := tk }) : wpAny (model prog w) A (storeName env x v) Q E s := by
  have uniq : ∀ (j : Nat) z, vars[j]? = some z → j ≠ i → z ≠ x := fun j z hz hj e => by
    subst e
    have h1 := (List.getElem?_eq_some_iff.mp hz)
    have h2 := (List.getElem?_eq_some_iff.mp hx)
    obtain ⟨a1, b1⟩ := h1
    obtain ⟨a2, b2⟩ := h2
    exact hj ((List.getElem_inj hn).mp (b1.trans b2.symm))
  rcases hk with hk | hk
  · obtain ⟨m, hns, hm⟩ := M.frame.ns
    refine wpAny_storeName_local hk hns (fun h' hn' hs => ?_) (by rw [M.frame.kind]; rfl)
    have hkeep : ∀ b o, b ≠ env.locals → s.heap.get? b = some o → h'.get? b = some o := fun b o hb e => hs.extBut b o hb e
    have ht : ∀ a o, s.heap.get? a = some o → tupLike o → h'.get? a = some o := fun a o e ht => hkeep a o (fun z => by subst z; exact M.frame.nsObj o e ht) e
    have hnt : ∀ o, h'.get? env.locals = some o → ¬ tupLike o := fun o e => by
      obtain ⟨o0, es, ep, ho, hd, _⟩ := hn'
      rw [ho] at e; cases e
      exact fun z => z.2.1 _ _ hd
    refine q h' (s.toks + 1) ⟨⟨M.core.heapEq _ _, fun b o e => hkeep b o (fun z => by rw [z, (M.frame.own _ (.inl rfl)).2] at e; cases e) (M.core.base b o e), fun a o e => ?_, M.core.new, M.core.dic, M.core.low⟩, ?_⟩ fun b o hb e => hkeep b o (fun z => hb (.inl z)) e
    · exact (M.core.objs a o e).keep (fun b hb => hkeep a b (fun z => by rw [z, (M.frame.own _ (.inl rfl)).1] at e; cases e) hb) ht
    · refine ⟨⟨_, hn', fun j z u hz hu hkz => ?_⟩, hnt, fun j z u hz hu hkz => ?_, fun z c hc => ?_, M.frame.inj, M.frame.has, M.frame.own, M.frame.kind, M.frame.glob, M.frame.bltn⟩
      · by_cases hj : j = i
        · subst hj
          simp only [Loc.set, if_true] at hu; cases hu
          rw [hx] at hz; cases hz
          exact ⟨v, by simp, rv.keep ht⟩
        · simp only [Loc.set, if_neg hj] at hu
          obtain ⟨u', h1, h2⟩ := hm j z u hz hu hkz
          exact ⟨u', by rw [if_neg (uniq j z hz hj)]; exact h1, h2.keep ht⟩
      · have hj : j ≠ i := fun e => by subst e; rw [hx] at hz; cases hz; rw [hk] at hkz; rcases hkz with h | h <;> cases h
        simp only [Loc.set, if_neg hj] at hu
        obtain ⟨c, u', h1, h2, h3⟩ := M.frame.cell j z u hz hu hkz
        exact ⟨c, u', h1, h2.sameBut hs (M.frame.cells z c h1).2.1, h3.keep ht⟩
      · obtain ⟨⟨u, h1⟩, h2, h3⟩ := M.frame.cells z c hc
        refine ⟨⟨u, h1.sameBut hs h2⟩, h2, fun o e => ?_⟩
        obtain ⟨o', ho', hd'⟩ := h1
        rw [hkeep c o' h2 ho'] at e; cases e; exact h3 _ ho'
  · obtain ⟨c, hc⟩ := M.frame.has x (.inl hk)
    obtain ⟨⟨u₀, hu₀⟩, hcl, hct⟩ := M.frame.cells x c hc
    refine wpAny_storeName_cell M.frame.kind hk hc hu₀ fun h' hn' hs => ?_
    have hkeep : ∀ b o, b ≠ c → s.heap.get? b = some o → h'.get? b = some o := fun b o hb e => hs.extBut b o hb e
    have ht : ∀ a o, s.heap.get? a = some o → tupLike o → h'.get? a = some o := fun a o e ht => hkeep a o (fun z => by subst z; exact hct o e ht) e
    have hnt : ∀ o, h'.get? c = some o → ¬ tupLike o := fun o e => by
      obtain ⟨o0, ho, hd⟩ := hn'
      rw [ho] at e; cases e
      exact fun z => z.2.2 _ hd
    refine q h' s.toks ⟨⟨M.core.heapEq _ _, fun b o e => hkeep b o (fun z => by rw [z, (M.frame.own c (.inr ⟨x, hc⟩)).2] at e; cases e) (M.core.base b o e), fun a o e => ?_, M.core.new, M.core.dic, M.core.low⟩, ?_⟩ fun b o hb e => hkeep b o (fun z => hb (.inr ⟨x, z ▸ hc⟩)) e
    · exact (M.core.objs a o e).keep (fun b hb => hkeep a b (fun z => by rw [z, (M.frame.own c (.inr ⟨x, hc⟩)).1] at e; cases e) hb) ht
    · refine ⟨?_, fun o e => ?_, fun j z u hz hu hkz => ?_, fun z d hd => ?_, M.frame.inj, M.frame.has, M.frame.own, M.frame.kind, M.frame.glob, M.frame.bltn⟩
      · obtain ⟨m, hns, hm⟩ := M.frame.ns
        refine ⟨m, hns.sameBut hs (Ne.symm hcl), fun j z u hz hu hkz => ?_⟩
        have hj : j ≠ i := fun e => by subst e; rw [hx] at hz; cases hz; rw [hk] at hkz; cases hkz
        simp only [Loc.set, if_neg hj] at hu
        obtain ⟨u', h1, h2⟩ := hm j z u hz hu hkz
        exact ⟨u', h1, h2.keep ht⟩
      · obtain ⟨m0, ⟨o0, es, ep, ho, hd, _⟩, _⟩ := M.frame.ns
        rw [hkeep _ _ (Ne.symm hcl) ho] at e; cases e; exact M.frame.nsObj _ ho
      · by_cases hj : j = i
        · subst hj
          simp only [Loc.set, if_true] at hu; cases hu
          rw [hx] at hz; cases hz
          exact ⟨c, v, hc, hn', rv.keep ht⟩
        · simp only [Loc.set, if_neg hj] at hu
          obtain ⟨d, u', h1, h2, h3⟩ := M.frame.cell j z u hz hu hkz
          refine ⟨d, u', h1, h2.sameBut hs fun e => ?_, h3.keep ht⟩
          subst e
          exact uniq j z hz hj (M.frame.inj _ _ _ h1 hc)
      · by_cases hdc : d = c
        · subst hdc; exact ⟨⟨_, hn'⟩, hcl, hnt⟩
        · obtain ⟨⟨u, h1⟩, h2, h3⟩ := M.frame.cells z d hd
          refine ⟨⟨u, h1.sameBut hs hdc⟩, h2, fun o e => ?_⟩
          obtain ⟨o', ho', hd'⟩ := h1
          rw [hkeep d o' hdc ho'] at e; cases e; exact h3 _ ho'
end
end Mine

namespace Mine
open PySem PyProof.Rows

section
variable (prog : Program) (w : World) (B : Shared) (vars : List Str) (S : Spec) (n : Nat)

/-- a target of an assignment -/
noncomputable def SoundT (kd : Str → Option NameKind) (t : Expr) (tg : Tgt) : Prop :=
  ∀ (env : Env) A ρ ρ' σ s y v (Q : Unit → Shared → Prop) (E : Value → Shared → Prop), env.kindOf = kd → A.handled = none → Sim prog w B vars env ρ σ s → VRel s.heap y v → bindT tg y ρ = some ρ' →
    (∀ h' tk, Sim prog w B vars env ρ' σ { s with heap := h', toks := tk } → (∀ b o, ¬ Own env b → s.heap.get? b = some o → h'.get? b = some o) → Q () { s with heap := h', toks := tk }) → wpAny (model prog w) A (assign t env v) Q E s
noncomputable def FRel (h : Heap) : Fl → Flow → Prop
  | .next, f => f = .next
  | .ret x, f => ∃ v, f = .ret v ∧ VRel h x v
noncomputable def GotF (env : Env) (σ : Store) (s : Shared) (Q : FPost) (f : Flow) (s' : Shared) : Prop :=
  ∃ fl ρ' σ', FRel s'.heap fl f ∧ Sim prog w B vars env ρ' σ' s' ∧ Step (Own env) σ s σ' s' ∧ Q fl ρ' σ'
noncomputable def SoundS (kd : Str → Option NameKind) (st : Stmt) (x : Mine.S) : Prop :=
  ∀ (env : Env) A ρ σ s Q, env.kindOf = kd → Good A n → Sim prog w B vars env ρ σ s → wpS S x ρ σ Q → wpAny (model prog w) A (exec st env) (GotF prog w B vars env σ s Q) (fun _ _ => False) s
noncomputable def SoundSs (kd : Str → Option NameKind) (sts : List Stmt) (xs : List Mine.S) : Prop :=
  ∀ (env : Env) A ρ σ s Q, env.kindOf = kd → Good A n → Sim prog w B vars env ρ σ s → wpSs S xs ρ σ Q → wpAny (model prog w) A (execs sts env) (GotF prog w B vars env σ s Q) (fun _ _ => False) s
end

section
variable {prog : Program} {w : World} {B : Shared} {vars : List Str} {S : Spec} {n : Nat} {G : Gl} {kd : Str → Option NameKind} {env : Env} {ρ ρ' : Loc} {σ σ₁ : Store} {s s₁ s' : Shared} {A : Around}

theorem GotF.trans {Q : FPost} {f : Flow} (T : Step (Own env) σ s σ₁ s₁) (h : GotF prog w B vars env σ₁ s₁ Q f s') : GotF prog w B vars env σ s Q f s' := by
  obtain ⟨fl, ρ', σ', a, b, c, d⟩ := h; exact ⟨fl, ρ', σ', a, b, T.trans c, d⟩
theorem SoundT.one {i : Nat} {x : Str} {pos : Pos} (hn : vars.Nodup) (hx : vars[i]? = some x) (hk : kd x = some .local ∨ kd x = some .cell) : SoundT prog w B vars kd (.Name x pos) (.one i) := by
  intro env A ρ ρ' σ s y v Q E hkd _ M rv hb q
  subst hkd
  simp only [bindT] at hb; cases hb
  exact wpAny_assign_Name (store_sound hn M hx hk rv q)
/-- names in a row -/
inductive Names (vars : List Str) (kd : Str → Option NameKind) : List Expr → List Nat → Prop
  | nil : Names vars kd [] []
  | cons {i : Nat} {x : Str} {pos : Pos} {es : List Expr} {is : List Nat} : vars[i]? = some x → (kd x = some .local ∨ kd x = some .cell) → Names vars kd es is → Names vars kd (.Name x pos :: es) (i :: is)
theorem Names.length {es : List Expr} {is : List Nat} (h : Names vars kd es is) : (assignEach es env).length = is.length ∧ (assignEach es env).findIdx? (·.1) = none := by
  induction h with
  | nil => exact ⟨rfl, rfl⟩
  | cons a b c ih =>
    constructor
    · show (_ :: assignEach _ env).length = _
      simp [ih.1]
    · show ((false, _) :: assignEach _ env).findIdx? (·.1) = none
      simp [List.findIdx?_cons, ih.2]
theorem Names.sound {es : List Expr} {is : List Nat} (h : Names vars kd es is) (hn : vars.Nodup) : ∀ (env : Env) A ρ ρ' σ s ys vs (Q : Unit → Shared → Prop) (E : Value → Shared → Prop), env.kindOf = kd → Sim prog w B vars env ρ σ s → VRels s.heap ys vs → bindMany is ys ρ = some ρ' →
    (∀ h' tk, Sim prog w B vars env ρ' σ { s with heap := h', toks := tk } → (∀ b o, ¬ Own env b → s.heap.get? b = some o → h'.get? b = some o) → Q () { s with heap := h', toks := tk }) → wpAny (model prog w) A (assignInOrder ((assignEach es env).map (·.2)) vs) Q E s := by
  induction h with
  | nil =>
    intro env A ρ ρ' σ s ys vs Q E hk M rs hb q
    cases ys with
    | nil =>
      simp only [bindMany] at hb; cases hb
      exact wpAny_pure (q s.heap s.toks M fun _ _ _ e => e)
    | cons y ys => simp only [bindMany] at hb; cases hb
  | @cons i x pos es is hx hkx r ih =>
    intro env A ρ ρ' σ s ys vs Q E hk M rs hb q
    cases ys with
    | nil => simp only [bindMany] at hb; cases hb
    | cons y ys =>
      simp only [bindMany] at hb
      simp only [VRels] at rs
      obtain ⟨v, vs', rfl, ra, rb⟩ := rs
      show wpAny _ _ (do holding vs' (assign (.Name x pos) env v); assignInOrder ((assignEach es env).map (·.2)) vs') _ _ _
      refine wpAny_bind (wpAny_holding (wpAny_assign_Name (store_sound hn M hx (by rw [hk]; exact hkx) ra fun h' tk M' hk' => ?_)))
      refine ih env A (ρ.set i y) ρ' σ _ ys vs' Q E hk M' (rb.keep fun c o e ht => hk' c o (fun z => M.frame.notTup c o z e ht) e) hb fun h'' tk'' M'' hk'' => ?_
      exact q h'' tk'' M'' fun b o hb e => hk'' b o hb (hk' b o hb e)
theorem SoundT.many {es : List Expr} {is : List Nat} {k : Nat} {pos : Pos} (hn : vars.Nodup) (h : Names vars kd es is) : SoundT prog w B vars kd (.Tuple es k pos) (.many is) := by
  intro env A ρ ρ' σ s y v Q E hkd hA M rv hb q
  cases y with
  | tup l =>
    simp only [bindT] at hb
    simp only [VRel] at rv
    obtain ⟨a, vs, m, rfl, gg, z, rs⟩ := rv
    have hl : vs.size = is.length := by
      have h1 := rs.length
      simp only [Array.length_toList] at h1
      have : ∀ (is : List Nat) (l : List V) (ρ : Loc), bindMany is l ρ = some ρ' → is.length = l.length := by
        intro is
        induction is with
        | nil => intro l ρ h; cases l with | nil => rfl | cons => simp [bindMany] at h
        | cons i is ih => intro l ρ h; cases l with | nil => simp [bindMany] at h | cons y l => simp [bindMany] at h; simp [ih l _ h]
      rw [this is l ρ hb]; exact h1
    refine wpAny_assign_Tuple (items := vs) hA ⟨_, gg, rfl, m, rfl⟩ (by rw [h.length.1, hl]) h.length.2 fun h' hx => ?_
    have hkeep : ∀ b o, s.heap.get? b = some o → h'.get? b = some o := fun b o e => hx b o (fun z => by rw [z, get_size] at e; cases e) e
    obtain ⟨M', _⟩ := M.keeps (h' := h') s.toks hkeep
    exact h.sound hn env A ρ ρ' σ _ l _ Q E hkd M' (rs.keep fun c o e _ => hkeep c o e) hb fun h'' tk'' M'' hk'' => q h'' tk'' M'' fun b o hb e => hk'' b o hb (hkeep b o e)
  | _ => simp only [bindT] at hb; cases hb
theorem SoundSs.nil : SoundSs prog w B vars S n kd [] [] := fun env A ρ σ s Q _ _ M q => by
  dsimp only [ws_nil, ws_cons] at q
  exact wpAny_execs_nil ⟨.next, ρ, σ, rfl, M, .refl, q⟩
theorem SoundSs.cons {st : Stmt} {sts : List Stmt} {x : Mine.S} {xs : List Mine.S} (h : SoundS prog w B vars S n kd st x) (r : SoundSs prog w B vars S n kd sts xs) : SoundSs prog w B vars S n kd (st :: sts) (x :: xs) := fun env A ρ σ s Q hk g M q => by
  dsimp only [ws_nil, ws_cons] at q
  refine wpAny_execs_cons (wpAny_mono (h env A ρ σ s _ hk g M q) (fun f s₁ h₁ => ?_) fun _ _ x => x)
  obtain ⟨fl, ρ', σ', fr, M₁, T₁, q₁⟩ := h₁
  cases fl with
  | next =>
    simp only [FRel] at fr; subst fr
    exact wpAny_mono (r env A ρ' σ' s₁ Q hk g M₁ q₁) (fun _ _ h => h.trans T₁) fun _ _ x => x
  | ret v =>
    obtain ⟨u, rfl, ru⟩ := fr
    exact ⟨.ret v, ρ', σ', ⟨u, rfl, ru⟩, M₁, T₁, q₁⟩
theorem SoundS.ret {e : Expr} {a : X} {pos : Pos} (h : SoundE prog w B vars S n kd e a) : SoundS prog w B vars S n kd (.Return (some e) pos) (.ret a) := fun env A ρ σ s Q hk g M q => by
  dsimp only [ws_expr, ws_asg, ws_setItem, ws_ret, ws_ite, ws_for, ws_forEnum, ws_while] at q
  refine wpAny_Return_some (wpAny_mono (h.ev env A ρ σ s _ hk g M q) (fun v s₁ h₁ => ?_) fun _ _ x => x)
  obtain ⟨x, σ₁, rv, M₁, T₁, q₁⟩ := h₁
  exact ⟨.ret x, ρ, σ₁, ⟨v, rfl, rv⟩, M₁, T₁, q₁⟩
theorem SoundS.ite {c : Expr} {a b : List Stmt} {x : X} {xs ys : List Mine.S} {pos : Pos} (h : SoundE prog w B vars S n kd c x) (ha : SoundSs prog w B vars S n kd a xs) (hb : SoundSs prog w B vars S n kd b ys) : SoundS prog w B vars S n kd (.If c a b pos) (.ite x xs ys) := fun env A ρ σ s Q hk g M q => by
  dsimp only [ws_expr, ws_asg, ws_setItem, ws_ret, ws_ite, ws_for, ws_forEnum, ws_while] at q
  refine wpAny_If (wpAny_mono (h.tr env A ρ σ s _ hk g M q) (fun t s₁ h₁ => ?_) fun _ _ x => x)
  obtain ⟨σ₁, M₁, T₁, q₁⟩ := h₁
  cases t with
  | true => exact wpAny_mono (ha env A ρ σ₁ s₁ Q hk g M₁ q₁) (fun _ _ h => h.trans T₁) fun _ _ x => x
  | false => exact wpAny_mono (hb env A ρ σ₁ s₁ Q hk g M₁ q₁) (fun _ _ h => h.trans T₁) fun _ _ x => x
/-- no comprehension -/
noncomputable def notComp : Expr → Bool
  | .ListComp .. => false | .SetComp .. => false | .DictComp .. => false | _ => true
theorem swaps_no {e : Expr} {t : Option Expr} {line : Nat} {env : Env} (h : notComp e = true) : swapsWith e t line env = pure false := by
  cases e <;> first | rfl | cases h
theorem SoundS.expr {e : Expr} {a : X} {pos : Pos} (h : SoundE prog w B vars S n kd e a) (hc : notComp e = true := by rfl) : SoundS prog w B vars S n kd (.Expr e pos) (.expr a) := fun env A ρ σ s Q hk g M q => by
  dsimp only [ws_expr, ws_asg, ws_setItem, ws_ret, ws_ite, ws_for, ws_forEnum, ws_while] at q
  refine wpAny_Expr (wpAny_mono (h.ev env A ρ σ s _ hk g M q) (fun v s₁ h₁ => ?_) fun _ _ x => x) (by unfold interactive; rw [M.frame.kind]; rfl) (swaps_no hc)
  obtain ⟨x, σ₁, rv, M₁, T₁, q₁⟩ := h₁
  cases x <;> first | exact q₁.elim | skip
  · simp only [VRel] at rv; subst rv; exact ⟨.next, ρ, σ₁, rfl, M₁, T₁, q₁⟩
  · simp only [VRel] at rv; subst rv; exact ⟨.next, ρ, σ₁, rfl, M₁, T₁, q₁⟩
theorem GotF.stored {Q : FPost} {h' : Heap} {tk : Nat} (M : Sim prog w B vars env ρ' σ { s with heap := h', toks := tk }) (hk : ∀ b o, ¬ Own env b → s.heap.get? b = some o → h'.get? b = some o) (q : Q .next ρ' σ) : GotF prog w B vars env σ s Q .next { s with heap := h', toks := tk } :=
  ⟨.next, ρ', σ, rfl, M, Step.move hk, q⟩
theorem SoundS.asg {x : Str} {i : Nat} {e : Expr} {a : X} {p pos : Pos} (hn : vars.Nodup) (hx : vars[i]? = some x) (hkx : kd x = some .local ∨ kd x = some .cell) (h : SoundE prog w B vars S n kd e a) (hc : notComp e = true := by rfl) :
    SoundS prog w B vars S n kd (.Assign [.Name x p] e pos) (.asg (.one i) a) := fun env A ρ σ s Q hk g M q => by
  dsimp only [ws_asg] at q
  refine wpAny_Assign_Name (wpAny_mono (h.ev env A ρ σ s _ hk g M q) (fun v s₁ h₁ => ?_) fun _ _ x => x) (swaps_no hc)
  obtain ⟨y, σ₁, rv, M₁, T₁, ρ', hρ, q₁⟩ := h₁
  cases (show some (ρ.set i y) = some ρ' from hρ)
  refine store_sound hn M₁ hx (by rw [hk]; exact hkx) rv fun h' tk M' hk' => ?_
  exact (GotF.stored M' hk' q₁).trans T₁
/-- no tuple display -/
noncomputable def notTupE : Expr → Bool
  | .Tuple .. => false | _ => true
theorem SoundS.asgT {es : List Expr} {is : List Nat} {k : Nat} {e : Expr} {a : X} {p pos : Pos} (hn : vars.Nodup) (hx : Names vars kd es is) (h : SoundE prog w B vars S n kd e a) (hc : notComp e = true := by rfl) (ht : notTupE e = true := by rfl) :
    SoundS prog w B vars S n kd (.Assign [.Tuple es k p] e pos) (.asg (.many is) a) := fun env A ρ σ s Q hk g M q => by
  dsimp only [ws_expr, ws_asg, ws_setItem, ws_ret, ws_ite, ws_for, ws_forEnum, ws_while] at q
  refine Assign_Tuple (wpAny_mono (h.ev env A ρ σ s _ hk g M q) (fun v s₁ h₁ => ?_) fun _ _ x => x) (show swapsWith e (some (.Tuple es k p)) pos.line env = pure false from swaps_no hc) ?_
  · obtain ⟨y, σ₁, rv, M₁, T₁, ρ', hρ, q₁⟩ := h₁
    refine (SoundT.many hn hx) env A ρ ρ' σ₁ s₁ y v _ _ hk g.hd M₁ rv hρ fun h' tk M' hk' => ?_
    exact (GotF.stored M' hk' q₁).trans T₁
  · unfold swappedStores
    cases e <;> first | rfl | cases ht
theorem put_stored {K : Type} [DecidableEq K] {h : Heap} {es : List (K × V)} {kvs : List (K × Value)} {k : K} {y : V} {v : Value} (hk : kvs.map (·.1) = es.map (·.1)) (hv : VRels h (es.map (·.2)) (kvs.map (·.2))) (rv : VRel h y v) :
    (stored kvs k v).map (·.1) = (put es k y).map (·.1) ∧ VRels h ((put es k y).map (·.2)) ((stored kvs k v).map (·.2)) := by
  have ha : kvs.any (fun kv => kv.1 = k) = es.any (fun e => e.1 = k) := by
    have e1 : kvs.any (fun kv => kv.1 = k) = (kvs.map (·.1)).any (fun x => x = k) := by rw [List.any_map]; rfl
    have e2 : es.any (fun kv => kv.1 = k) = (es.map (·.1)).any (fun x => x = k) := by rw [List.any_map]; rfl
    rw [e1, e2, hk]
  unfold stored put
  rw [ha]
  split
  · have key : ∀ (es : List (K × V)) (kvs : List (K × Value)), kvs.map (·.1) = es.map (·.1) → VRels h (es.map (·.2)) (kvs.map (·.2)) →
        (kvs.map fun kv => if kv.1 = k then (kv.1, v) else kv).map (·.1) = (es.map fun e => if e.1 = k then (e.1, y) else e).map (·.1) ∧
        VRels h ((es.map fun e => if e.1 = k then (e.1, y) else e).map (·.2)) ((kvs.map fun kv => if kv.1 = k then (kv.1, v) else kv).map (·.2)) := by
      intro es
      induction es with
      | nil => intro kvs hk hv; cases kvs with | nil => exact ⟨rfl, .nil⟩ | cons => simp at hk
      | cons e es ih =>
        intro kvs hk hv
        cases kvs with
        | nil => simp at hk
        | cons kv kvs =>
          simp only [List.map_cons, List.cons.injEq] at hk
          simp only [List.map_cons, VRels, List.cons.injEq] at hv
          obtain ⟨u, r, ⟨rfl, rfl⟩, ra, rb⟩ := hv
          obtain ⟨h1, h2⟩ := ih kvs hk.2 rb
          simp only [List.map_cons]
          refine ⟨?_, ?_⟩
          · rw [h1]
            congr 1
            have hk1 := hk.1
            by_cases hc : e.1 = k
            · rw [if_pos hc, if_pos (hk1.trans hc)]; exact hk1
            · rw [if_neg hc, if_neg (fun z => hc (hk1.symm.trans z))]; exact hk1
          · rw [hk.1]
            by_cases hc : e.1 = k
            · simp only [hc, if_true]; exact .cons rv h2
            · simp only [hc, if_false]; exact .cons ra h2
    exact key es kvs hk hv
  · refine ⟨by simp [hk], ?_⟩
    rw [List.map_append, List.map_append]
    exact hv.append (.one rv)
theorem VRels.set {h : Heap} {y : V} {v : Value} (rv : VRel h y v) : ∀ {l : List V} {vs : List Value} {k : Nat}, VRels h l vs → VRels h (l.set k y) (vs.set k v)
  | [], _, _, e => by simp only [VRels] at e; subst e; exact .nil
  | _ :: _, _, 0, e => by
    simp only [VRels] at e
    obtain ⟨u, r, rfl, a, b⟩ := e
    exact ⟨v, r, rfl, rv, b⟩
  | _ :: _, _, k + 1, e => by
    simp only [VRels] at e
    obtain ⟨u, r, rfl, a, b⟩ := e
    exact ⟨u, r.set k v, rfl, a, VRels.set rv b⟩
theorem SoundS.setItem {o i e : Expr} {a b c : X} {p pos : Pos} {mg mb} (T : TopOK B G mg mb) (ho : SoundE prog w B vars S n kd o a) (hi : SoundE prog w B vars S n kd i b) (he : SoundE prog w B vars S n kd e c) (hc : notComp e = true := by rfl) :
    SoundS prog w B vars S n kd (.Assign [.Subscript o i p] e pos) (.setItem a b c) := fun env A ρ σ s Q hk g M q => by
  dsimp only [ws_expr, ws_asg, ws_setItem, ws_ret, ws_ite, ws_for, ws_forEnum, ws_while] at q
  refine wpAny_Assign_Subscript (wpAny_mono (he.ev env A ρ σ s _ hk g M q) (fun v s₁ h₁ => ?_) fun _ _ x => x) (swaps_no hc)
  obtain ⟨y, σ₁, rv, M₁, T₁, q₁⟩ := h₁
  refine wpAny_mono (ho.ev env A ρ σ₁ s₁ _ hk g M₁ q₁) (fun vo s₂ h₂ => ?_) fun _ _ x => x
  obtain ⟨yo, σ₂, ro, M₂, T₂, q₂⟩ := h₂
  refine wpAny_mono (hi.ev env A ρ σ₂ s₂ _ hk g M₂ q₂) (fun vi s₃ h₃ => ?_) fun _ _ x => x
  obtain ⟨yi, σ₃, ri, M₃, T₃, q₃⟩ := h₃
  have TT := (T₁.trans T₂).trans T₃
  have rv₃ : VRel s₃.heap y v := (rv.step M₁ T₂).step M₂ T₃
  unfold setV at q₃
  obtain ⟨pp, rfl, q₃⟩ := q₃
  simp only [VRel] at ro; subst ro
  split at q₃
  · rename_i l k hp
    obtain ⟨h0, h1, q₃⟩ := q₃
    simp only [VRel] at ri; obtain ⟨t, rfl⟩ := ri
    obtain ⟨vs, ⟨hl, hpl⟩, z, rs⟩ := M₃.core.objs _ _ hp
    have hlen := rs.length
    simp only [Array.length_toList] at hlen
    obtain ⟨cn, hg⟩ := hpl rfl
    refine PySem.W.ki_setAt hg h0 (by omega) (by omega) ?_
    have hsb : Heap.SameBut pp s₃.heap (s₃.heap.update pp (Obj.mapSeq (·.setIfInBounds k.toNat v))) := Heap.SameBut.update ..
    have hnew := PySem.IsL.update hg (·.setIfInBounds k.toNat v)
    have hnt : ∀ o, s₃.heap.get? pp = some o → ¬ tupLike o := fun o e => by
      obtain ⟨b, hb, hn, _⟩ := (M₃.core.objs _ _ hp).get; rw [hb] at e; cases e; exact hn
    have ht : ∀ c o, s₃.heap.get? c = some o → tupLike o → (s₃.heap.update pp (Obj.mapSeq (·.setIfInBounds k.toNat v))).get? c = some o := fun c o e ht => hsb.extBut c o (fun z => by subst z; exact hnt o e ht) e
    have hpn : (s₃.heap.update pp (Obj.mapSeq (·.setIfInBounds k.toNat v))).PlainList pp (vs.setIfInBounds k.toNat v) := ⟨_, hnew⟩
    obtain ⟨M₄, T₄⟩ := M₃.set (o' := .list true (l.set k.toNat y)) (h' := s₃.heap.update pp (Obj.mapSeq (·.setIfInBounds k.toNat v))) s₃.toks hp rfl (fun b o hb e => hsb.extBut b o hb e)
      ⟨vs.setIfInBounds k.toNat v, ⟨hpn.isList, fun _ => hpn⟩, by simpa using z, by rw [Array.toList_setIfInBounds]; exact VRels.set (rv₃.keep ht) (rs.keep ht)⟩
    exact ⟨.next, ρ, _, rfl, M₄, TT.trans T₄, q₃⟩
  · rename_i es x hp
    obtain ⟨hz, q₃⟩ := q₃
    simp only [VRel] at ri; obtain ⟨t, rfl⟩ := ri
    obtain ⟨kvs, hd, hkk, hv⟩ := M₃.core.objs _ _ hp
    have hl := congrArg List.length hkk
    simp only [List.length_map] at hl
    refine wpAny_setItem_pairs (knd := PySem.strKind prog w) (k := x) (by simp [PySem.strKind, Value.isStrOf]) hd (fun h' hd' hs => ?_) (by rw [sizeLine_eq]; omega)
    have hnt : ∀ o, s₃.heap.get? pp = some o → ¬ tupLike o := fun o e => by
      obtain ⟨b, hb, hn, _⟩ := (M₃.core.objs _ _ hp).get; rw [hb] at e; cases e; exact hn
    have ht : ∀ c o, s₃.heap.get? c = some o → tupLike o → h'.get? c = some o := fun c o e ht => hs.extBut c o (fun z => by subst z; exact hnt o e ht) e
    obtain ⟨M₄, T₄⟩ := M₃.set (o' := .ds true (put es x y)) (h' := h') (s₃.toks + 1) hp rfl (fun b o hb e => hs.extBut b o hb e) ⟨_, hd', put_stored hkk (hv.keep ht) (rv₃.keep ht)⟩ (hdd := fun _ => M₃.core.dic _ _ hp rfl)
    exact ⟨.next, ρ, _, rfl, M₄, TT.trans T₄, q₃⟩
  · rename_i es x hp
    obtain ⟨hz, q₃⟩ := q₃
    simp only [VRel] at ri; obtain ⟨t, rfl⟩ := ri
    obtain ⟨kvs, hd, hkk, hv⟩ := M₃.core.objs _ _ hp
    have hl := congrArg List.length hkk
    simp only [List.length_map] at hl
    refine wpAny_setItem_pairs (knd := PySem.intKind prog w) (k := x) (by simp [PySem.intKind, Value.isInt]) hd (fun h' hd' hs => ?_) (by rw [sizeLine_eq]; omega)
    have hnt : ∀ o, s₃.heap.get? pp = some o → ¬ tupLike o := fun o e => by
      obtain ⟨b, hb, hn, _⟩ := (M₃.core.objs _ _ hp).get; rw [hb] at e; cases e; exact hn
    have ht : ∀ c o, s₃.heap.get? c = some o → tupLike o → h'.get? c = some o := fun c o e ht => hs.extBut c o (fun z => by subst z; exact hnt o e ht) e
    obtain ⟨M₄, T₄⟩ := M₃.set (o' := .di true (put es x y)) (h' := h') (s₃.toks + 1) hp rfl (fun b o hb e => hs.extBut b o hb e) ⟨_, hd', put_stored hkk (hv.keep ht) (rv₃.keep ht)⟩ (hdd := fun _ => M₃.core.dic _ _ hp rfl)
    exact ⟨.next, ρ, _, rfl, M₄, TT.trans T₄, q₃⟩
  · exact q₃.elim
end
end Mine

namespace Mine
open PySem PyProof.Rows

section
variable {prog : Program} {w : World} {B : Shared} {vars : List Str} {S : Spec} {n : Nat} {G : Gl} {kd : Str → Option NameKind} {env : Env} {ρ ρ' : Loc} {σ σ₁ σ' : Store} {s s₁ s' : Shared} {A : Around}

theorem forLoop_own {R : Result → Shared → Prop} {target : Expr} {it : Value} {body : List Stmt} (I : Nat → Shared → Prop)
    (turn : ∀ k s, I k s → wpAny (model prog w) A (pyNext it) (fun r s₁ => match r with
      | none => R (.ok .next) s₁
      | some v => wpAny (model prog w) A (letOwnedTupleGo target it v) (fun _ s₂ => wpAny (model prog w) A (assign target env v) (fun _ s₃ => wpAny (model prog w) A (execs body env) (fun f s₄ => match f with
          | .next | .cont => ∃ m, m < k ∧ I m s₄
          | .brk => R (.ok .next) s₄
          | .ret v => R (.ok (.ret v)) s₄) (fun _ _ => False) s₃) (fun _ _ => False) s₂) (fun _ _ => False) s₁) (fun _ _ => False) s)
    (k : Nat) (h : I k s) : codeAny (model prog w) A (.forLoop target it body [] env) R s := by
  refine codeAny_loop' rfl I (fun k s hI => ?_) k h
  show wpAny _ _ ((forTurn target it body [] env).onRaise (fun x => do noteFrame x env; theTreesLotGoes x)) _ _ s
  refine wpAny_noted ?_
  unfold forTurn
  refine wpAny_bind (wpAny_standAt (wpAny_bind (wpAny_onRaise (wpAny_mono (turn k s hI) (fun r s₁ h₁ => ?_) fun _ _ h' => h'.elim))))
  cases r with
  | none => exact wpAny_pure (.inr ⟨rfl, codeAny_block (wpAny_execs_nil h₁)⟩)
  | some v =>
    refine wpAny_bind (wpAny_mono h₁ (fun _ s₂ h₂ => wpAny_bind (wpAny_mono h₂ (fun _ s₃ h₃ => wpAny_bind (wpAny_mono h₃ (fun f s₄ h₄ => ?_) fun _ _ h' => h'.elim)) fun _ _ h' => h'.elim)) fun _ _ h' => h'.elim)
    cases f with
    | next => exact wpAny_pure (.inl ⟨rfl, h₄⟩)
    | cont => exact wpAny_pure (.inl ⟨rfl, h₄⟩)
    | brk => exact wpAny_pure h₄
    | ret v => exact wpAny_pure h₄
/-- what a loop's iterator asks of the state -/
structure LooseOK (B : Shared) (env : Env) (fp wr : List Addr) (σ : Store) (s : Shared) : Prop where
  w : ∀ b ∈ wr, σ b = none ∧ B.heap.get? b = none
  f : ∀ b ∈ fp, Sh σ b ∧ ¬ Own env b
theorem LooseOK.step {fp wr : List Addr} (L : LooseOK B env fp wr σ s) (hs : ∀ b ∈ wr, b ∈ fp) (hl : ∀ b ∈ fp, ∃ o, s.heap.get? b = some o) (T : Step (Own env) σ s σ' s') : LooseOK B env fp wr σ' s' where
  w b hb := by
    obtain ⟨o, e⟩ := hl b (hs b hb)
    exact ⟨T.no b o e (L.w b hb).1 (L.f b (hs b hb)).2, (L.w b hb).2⟩
  f b hb := by
    obtain ⟨o, e⟩ := hl b hb
    exact ⟨T.shut b o e (L.f b hb).1 (L.f b hb).2, (L.f b hb).2⟩
theorem Iter.moved {I : Addr} {fp wr : List Addr} {items : List V} {ok : Store → Prop} {St : Nat → Heap → Prop} {k : Nat} (J : Iter prog w B I fp wr items ok St) (L : LooseOK B env fp wr σ s) (M : Sim prog w B vars env ρ σ s) (st : St k s.heap) {h' : Heap} (tk : Nat)
    (hk : ∀ b o, b ∉ wr → s.heap.get? b = some o → h'.get? b = some o) : Sim prog w B vars env ρ σ { s with heap := h', toks := tk } :=
  M.move (· ∈ wr) tk hk fun a ha => ⟨(L.w a ha).1, (L.w a ha).2, (L.f a (J.sub a ha)).2, fun o e => J.loose k _ a o st ha e⟩
theorem for_run {I : Addr} {fp wr : List Addr} {items : List V} {ok : Store → Prop} {St : Nat → Heap → Prop} {target : Expr} {tg : Tgt} {body : List Stmt} {xs : List Mine.S} {Q : FPost} (J : Iter prog w B I fp wr items ok St) (g : Good A n) (hk : env.kindOf = kd)
    (ht : SoundT prog w B vars kd target tg) (hb : SoundSs prog w B vars S n kd body xs) (M : Sim prog w B vars env ρ σ s) (st : St 0 s.heap) (L : LooseOK B env fp wr σ s)
    (q : forW ok (fun v ρ σ Q => ∃ ρ', bindT tg v ρ = some ρ' ∧ wpSs S xs ρ' σ Q) items ρ σ Q) :
    codeAny (model prog w) A (.forLoop target (.ref I) body [] env) (fun r s' => ∃ f fl ρ' σ', r = .ok f ∧ FRel s'.heap fl f ∧ Sim prog w B vars env ρ' σ' s' ∧ Step (fun a => Own env a ∨ a ∈ wr) σ s σ' s' ∧ Q fl ρ' σ') s := by
  refine forLoop_own (fun m s' => ∃ k ρ' σ', m = items.length + 1 - k ∧ k ≤ items.length ∧ Sim prog w B vars env ρ' σ' s' ∧ St k s'.heap ∧ LooseOK B env fp wr σ' s' ∧ Step (fun a => Own env a ∨ a ∈ wr) σ s σ' s' ∧
    forW ok (fun v ρ σ Q => ∃ ρ', bindT tg v ρ = some ρ' ∧ wpSs S xs ρ' σ Q) (items.drop k) ρ' σ' Q) ?_ (items.length + 1) ⟨0, ρ, σ, rfl, Nat.zero_le _, M, st, L, .refl, by simpa using q⟩
  rintro m s₀ ⟨k, ρ₀, σ₀, rfl, hkl, M₀, st₀, L₀, T₀, q₀⟩
  by_cases hlt : k < items.length
  · have hx : items[k]? = some items[k] := List.getElem?_eq_getElem hlt
    rw [List.drop_eq_getElem_cons hlt] at q₀
    simp only [forW] at q₀
    obtain ⟨hok, ρ₁, hρ, q₁⟩ := q₀
    refine J.next A k items[k] σ₀ s₀ _ _ g.hd hx st₀ M₀.core hok fun v h₁ tk₁ rv st₁ hk₁ => ?_
    have M₁ := J.moved L₀ M₀ st₀ tk₁ hk₁
    have T₁ : Step (fun a => Own env a ∨ a ∈ wr) σ₀ s₀ σ₀ { s₀ with heap := h₁, toks := tk₁ } := Step.move fun b o hb e => hk₁ b o (fun z => hb (.inr z)) e
    have L₁ : LooseOK B env fp wr σ₀ { s₀ with heap := h₁, toks := tk₁ } := ⟨L₀.w, L₀.f⟩
    refine J.owned A k v target _ _ _ st₁ fun h₂ tk₂ st₂ hk₂ => ?_
    have M₂ := J.moved L₁ M₁ st₁ tk₂ hk₂
    have T₂ : Step (fun a => Own env a ∨ a ∈ wr) σ₀ { s₀ with heap := h₁, toks := tk₁ } σ₀ { s₀ with heap := h₂, toks := tk₂ } := Step.move fun b o hb e => hk₂ b o (fun z => hb (.inr z)) e
    have rv₂ : VRel h₂ items[k] v := rv.keep fun c o e htl => hk₂ c o (fun z => J.loose (k + 1) _ c o st₁ z e htl) e
    refine ht env A ρ₀ ρ₁ σ₀ _ _ v _ _ hk g.hd M₂ rv₂ hρ fun h₃ tk₃ M₃ hk₃ => ?_
    have T₃ : Step (Own env) σ₀ { s₀ with heap := h₂, toks := tk₂ } σ₀ { s₀ with heap := h₃, toks := tk₃ } := Step.move hk₃
    have st₃ : St (k + 1) h₃ := J.frame _ _ _ st₂ fun b hb o e => hk₃ b o (L₀.f b hb).2 e
    refine wpAny_mono (hb env A ρ₁ σ₀ _ _ hk g M₃ q₁) (fun f s₄ h₄ => ?_) fun _ _ x => x
    obtain ⟨fl, ρ₄, σ₄, fr, M₄, T₄, q₄⟩ := h₄
    have TT : Step (fun a => Own env a ∨ a ∈ wr) σ s σ₄ s₄ := ((T₀.trans (T₁.trans T₂)).trans (T₃.more fun a z => .inl z)).trans (T₄.more fun a z => .inl z)
    cases fl with
    | next =>
      simp only [FRel] at fr; subst fr
      have L₃ : LooseOK B env fp wr σ₀ { s₀ with heap := h₃, toks := tk₃ } := ⟨L₀.w, L₀.f⟩
      have hlive : ∀ b ∈ fp, ∃ o, h₃.get? b = some o := fun b hb => J.live _ _ b st₃ hb
      refine ⟨items.length + 1 - (k + 1), by omega, k + 1, ρ₄, σ₄, rfl, hlt, M₄, J.frame _ _ _ st₃ fun b hb o e => T₄.keep b o e (L₀.f b hb).1 (L₀.f b hb).2, L₃.step J.sub hlive T₄, TT, q₄⟩
    | ret y =>
      obtain ⟨u, rfl, ru⟩ := fr
      exact ⟨_, .ret y, ρ₄, σ₄, rfl, ⟨u, rfl, ru⟩, M₄, TT, q₄⟩
  · have hke : k = items.length := by omega
    subst hke
    rw [List.drop_length] at q₀
    simp only [forW] at q₀
    refine J.done A σ₀ s₀ _ _ g.hd st₀ M₀.core q₀.1 fun h₁ tk₁ hk₁ => ?_
    have M₁ := J.moved L₀ M₀ st₀ tk₁ hk₁
    have T₁ : Step (fun a => Own env a ∨ a ∈ wr) σ₀ s₀ σ₀ { s₀ with heap := h₁, toks := tk₁ } := Step.move fun b o hb e => hk₁ b o (fun z => hb (.inr z)) e
    exact ⟨_, .next, ρ₀, σ₀, rfl, rfl, M₁, T₀.trans T₁, q₀.2⟩
theorem folded_no {e : Expr} {env : Env} (h : notSet e = true) : ∀ x, foldedSetIterable e env x = pure x := by
  intro x
  cases e <;> first | rfl | cases h
theorem Iter.dictKeys {K : Type} [DecidableEq K] {knd : KeyKind prog w K} {d I : Addr} {kvs : List (K × Value)} {ep : Nat} {items : List V} (hne : d ≠ I) (hl : items.length = kvs.length) (hP : ∀ (k : Nat) x v (h : Heap), items[k]? = some x → (∃ kk u, kvs[k]? = some (kk, u) ∧ knd.is kk v = true) → VRel h x v) :
    Iter prog w B I [I, d] [I] items (fun _ => True) (fun i h => h.IsKeyIter I d i kvs.length ep ∧ h.DictAt knd d kvs ep) := by
  refine Walks.iter (T := "dict_keyiterator") (P := fun i v => ∃ k x, kvs[i]? = some (k, x) ∧ knd.is k v = true) (fun A' hA => by rw [hl]; exact Walks.dictKeys hA I d hne kvs ep) (by simp) rfl hP (by decide) (fun k h st => ?_) (fun k h b st hb => ?_) (by decide)
  · obtain ⟨⟨o, ho, hc, _⟩, _⟩ := st; exact ⟨o, ho, hc⟩
  · simp at hb
    rcases hb with rfl | rfl
    · obtain ⟨⟨o, ho, hc, _⟩, _⟩ := st; exact ⟨o, ho⟩
    · obtain ⟨_, o, es, ho, _⟩ := st; exact ⟨o, ho⟩
theorem set_self {σ : Store} {p : Addr} {o : O} : (σ.set p o) p = some o := by simp [Store.set]
theorem set_ne {σ : Store} {p a : Addr} {o : O} (h : a ≠ p) : (σ.set p o) a = σ a := by simp [Store.set, h]
theorem frz_isD {o : O} (h : o.isD = true) : o.frz.isD = true ∧ o.frz.mut = false := by cases o <;> first | exact ⟨rfl, rfl⟩ | cases h
theorem Sim.freeze (M : Sim prog w B vars env ρ σ s) {p : Addr} {o : O} (hp : σ p = some o) (hd : o.isD = true) : Sim prog w B vars env ρ (σ.set p o.frz) s := by
  refine ⟨⟨M.core.same, M.core.base, fun a x e => ?_, fun a x e hx => ?_, fun a x e hx => ?_, M.core.low⟩, M.frame.kept (fun _ _ _ e => e) (fun _ _ e _ => e) fun a ha => ?_⟩
  · by_cases q : a = p
    · subst q; rw [set_self] at e; cases e; exact (M.core.objs a o hp).mut hd
    · rw [set_ne q] at e; exact M.core.objs a x e
  · by_cases q : a = p
    · subst q; exact M.core.new a o hp (.inr hd)
    · rw [set_ne q] at e; exact M.core.new a x e hx
  · by_cases q : a = p
    · subst q; exact M.core.dic a o hp hd
    · rw [set_ne q] at e; exact M.core.dic a x e hx
  · rw [set_ne (fun q => by subst q; rw [(M.frame.own a ha).1] at hp; cases hp)]; exact (M.frame.own a ha).1
theorem Sim.thaw (M : Sim prog w B vars env ρ σ s) {p : Addr} {o : O} (hp : σ p = some o.frz) (hd : o.isD = true) : Sim prog w B vars env ρ (σ.set p o) s := by
  refine ⟨⟨M.core.same, M.core.base, fun a x e => ?_, fun a x e hx => ?_, fun a x e hx => ?_, M.core.low⟩, M.frame.kept (fun _ _ _ e => e) (fun _ _ e _ => e) fun a ha => ?_⟩
  · by_cases q : a = p
    · subst q; rw [set_self] at e; cases e; exact (M.core.objs a _ hp).unfrz hd
    · rw [set_ne q] at e; exact M.core.objs a x e
  · by_cases q : a = p
    · subst q; exact M.core.new a _ hp (.inr (frz_isD hd).1)
    · rw [set_ne q] at e; exact M.core.new a x e hx
  · by_cases q : a = p
    · subst q; exact M.core.dic a _ hp (frz_isD hd).1
    · rw [set_ne q] at e; exact M.core.dic a x e hx
  · rw [set_ne (fun q => by subst q; rw [(M.frame.own a ha).1] at hp; cases hp)]; exact (M.frame.own a ha).1
theorem for_dict {K : Type} [DecidableEq K] {knd : KeyKind prog w K} {p : Addr} {o : O} {es : List (K × V)} {keys : List V} {target : Expr} {tg : Tgt} {body : List Stmt} {xs : List Mine.S} {Q : FPost} (g : Good A n) (hk : env.kindOf = kd) (hm : (p == sysModules) = false)
    (ht : SoundT prog w B vars kd target tg) (hb : SoundSs prog w B vars S n kd body xs) (M : Sim prog w B vars env ρ σ s) (hp : σ p = some o) (hd : o.isD = true) (hdr : DRel prog w knd s.heap p es) (hlen : keys.length = es.length)
    (hkeys : ∀ (k : Nat) x v (h : Heap) kk u, keys[k]? = some x → es[k]? = some (kk, u) → knd.is kk v = true → VRel h x v)
    (q : forW (fun _ => True) (fun v ρ σ Q => ∃ ρ', bindT tg v ρ = some ρ' ∧ wpSs S xs ρ' σ Q) keys ρ (σ.set p o.frz) fun f ρ' σ' => σ' p = some o.frz ∧ Q f ρ' (σ'.set p o)) :
    wpAny (model prog w) A (pyIter (.ref p)) (fun it s₂ => codeAny (model prog w) A (.forLoop target it body [] env) (fun r s' => ∃ f, r = .ok f ∧ GotF prog w B vars env σ s Q f s') s₂) (fun _ _ => False) s := by
  obtain ⟨kvs, hdo, hkk, hv⟩ := hdr
  obtain ⟨ep, hda⟩ := hdo.dictAt
  have hl2 := congrArg List.length hkk
  simp only [List.length_map] at hl2
  refine wpAny_pyIter_dict hm hda ?_
  have hne : p ≠ s.heap.objs.size := by obtain ⟨o', es', ho, _⟩ := hda; exact Nat.ne_of_lt (Heap.lt_size ho)
  have hI := get_size s.heap
  obtain ⟨M₂, T₂⟩ := M.keeps (h' := s.heap.push { cls := .type "dict_keyiterator", data := .fields #[.ref p, .int 0 0, .int kvs.length 0, .int ep 0] }) s.toks fun b o e => Heap.get?_push_of_some _ e
  have M₃ := M₂.freeze hp hd
  have J : Iter prog w B s.heap.objs.size [s.heap.objs.size, p] [s.heap.objs.size] keys (fun _ => True) (fun i h => h.IsKeyIter s.heap.objs.size p i kvs.length ep ∧ h.DictAt knd p kvs ep) :=
    Iter.dictKeys hne (by omega) fun k x v h hx hP => by
      obtain ⟨kk, u, h1, h2⟩ := hP
      have h3 : (es.map (·.1))[k]? = some kk := by rw [← hkk]; simp [h1]
      simp only [List.getElem?_map, Option.map_eq_some_iff] at h3
      obtain ⟨⟨k', u'⟩, h4, h5⟩ := h3
      subst h5
      exact hkeys k x v h _ u' hx h4 h2
  have hno : ¬ Own env s.heap.objs.size := fun z => by obtain ⟨o, e⟩ := M.frame.exists z; rw [hI] at e; cases e
  have hnp : ¬ Own env p := fun z => by rw [(M.frame.own p z).1] at hp; cases hp
  have L : LooseOK B env [s.heap.objs.size, p] [s.heap.objs.size] (σ.set p o.frz) { s with heap := s.heap.push { cls := .type "dict_keyiterator", data := .fields #[.ref p, .int 0 0, .int kvs.length 0, .int ep 0] } } := by
    refine ⟨fun b hb => ?_, fun b hb => ?_⟩
    · simp at hb; subst hb; rw [set_ne (Ne.symm hne)]; exact M.core.free hI
    · simp at hb
      rcases hb with rfl | rfl
      · refine ⟨.of_none ?_, hno⟩; rw [set_ne (Ne.symm hne)]; exact (M.core.free hI).1
      · refine ⟨fun x e => ?_, hnp⟩; rw [set_self] at e; cases e; exact (frz_isD hd).2
  refine codeAny_mono (for_run J g hk ht hb M₃ ⟨⟨_, Heap.get?_push_size _ rfl, rfl, rfl⟩, hda.push _⟩ L q) fun r s₃ h₃ => ?_
  obtain ⟨f, fl, ρ₃, σ₃, rfl, fr, M₄, T₄, hp₃, q₃⟩ := h₃
  refine ⟨f, rfl, fl, ρ₃, σ₃.set p o, fr, M₄.thaw hp₃ hd, ?_, q₃⟩
  have hIne : ∀ a o', s.heap.get? a = some o' → a ≠ s.heap.objs.size := fun a o' e z => by rw [z, hI] at e; cases e
  have hown : ∀ a o', s.heap.get? a = some o' → ¬ Own env a → ¬ (Own env a ∨ a ∈ [s.heap.objs.size]) := fun a o' e h z => z.elim h fun z => hIne a o' e (by simpa using z)
  refine ⟨fun a x e hs ho => ?_, fun a x e hs ho => ?_, fun a x e hs ho => ?_⟩
  · refine T₄.keep a x (Heap.get?_push_of_some _ e) (fun y ey => ?_) (hown a x e ho)
    by_cases z : a = p
    · subst z; rw [set_self] at ey; cases ey; exact (frz_isD hd).2
    · rw [set_ne z] at ey; exact hs y ey
  · have z : a ≠ p := fun z => by subst z; rw [hs] at hp; cases hp
    rw [set_ne z]
    exact T₄.no a x (Heap.get?_push_of_some _ e) (by rw [set_ne z]; exact hs) (hown a x e ho)
  · intro y ey
    by_cases z : a = p
    · subst z; rw [set_self] at ey; cases ey; exact hs _ hp
    · rw [set_ne z] at ey
      exact T₄.shut a x (Heap.get?_push_of_some _ e) (fun y ey => by rw [set_ne z] at ey; exact hs y ey) (hown a x e ho) y ey
theorem SoundS.for {target iter : Expr} {tg : Tgt} {it : X} {body : List Stmt} {xs : List Mine.S} {pos : Pos} {mg mb} (T : TopOK B G mg mb) (ht : SoundT prog w B vars kd target tg) (hi : SoundE prog w B vars S n kd iter it) (hb : SoundSs prog w B vars S n kd body xs) (hset : notSet iter = true := by rfl) :
    SoundS prog w B vars S n kd (.For target iter body [] pos) (.for tg it xs) := fun env A ρ σ s Q hk g M q => by
  dsimp only [ws_expr, ws_asg, ws_setItem, ws_ret, ws_ite, ws_for, ws_forEnum, ws_while] at q
  refine wpAny_For (wpAny_mono (hi.ev env A ρ σ s _ hk g M q) (fun v s₁ h₁ => ?_) fun _ _ x => x) (folded_no hset)
  obtain ⟨x, σ₁, rv, M₁, T₁, q₁⟩ := h₁
  split at q₁
  · unfold forD at q₁
    obtain ⟨p, o, keys, rfl, hp, hkeys, q₁⟩ := q₁
    simp only [VRel] at rv; subst rv
    have fin : ∀ (it : Value) (s₂ : Shared), codeAny (model prog w) A (.forLoop target it body [] env) (fun r s' => ∃ f, r = .ok f ∧ GotF prog w B vars env σ₁ s₁ Q f s') s₂ →
        codeAny (model prog w) A (.forLoop target it body [] env) (fun r s' => match r with | .ok f => GotF prog w B vars env σ s Q f s' | .error e => cameBackBy (model prog w) A env (fun _ _ => False) e s') s₂ := fun it s₂ h => codeAny_mono h fun r s₃ h₃ => by
      obtain ⟨f, rfl, h₃⟩ := h₃; exact h₃.trans T₁
    cases o with
    | list m l => exact hkeys.elim
    | ds m es =>
      refine wpAny_mono (for_dict (knd := PySem.strKind prog w) g hk (M₁.core.notMods T hp rfl) ht hb M₁ hp rfl (M₁.core.objs _ _ hp) (by rw [hkeys]; simp) (fun k x v h kk u hx he hv => ?_) q₁) fin fun _ _ x => x
      rw [hkeys] at hx
      simp [he] at hx; subst hx
      obtain ⟨t, rfl⟩ := Value.isStrOf_shape hv
      simp [VRel]
    | di m es =>
      refine wpAny_mono (for_dict (knd := PySem.intKind prog w) g hk (M₁.core.notMods T hp rfl) ht hb M₁ hp rfl (M₁.core.objs _ _ hp) (by rw [hkeys]; simp) (fun k x v h kk u hx he hv => ?_) q₁) fin fun _ _ x => x
      rw [hkeys] at hx
      simp [he] at hx; subst hx
      obtain ⟨t, rfl⟩ := Value.isInt_shape hv
      simp [VRel]
  · obtain ⟨items, ok, hsrc, q₁⟩ := q₁
    refine src_iter M₁.core rv hsrc fun I St h' tk hI J st0 hkeep hIo hok => ?_
    obtain ⟨M₂, T₂⟩ := M₁.keeps (h' := h') tk hkeep
    have hno : ¬ Own env I := fun z => by obtain ⟨o, e⟩ := M₁.frame.exists z; rw [hI] at e; cases e
    have L : LooseOK B env [I] [I] σ₁ { s₁ with heap := h', toks := tk } := ⟨fun b hb => by simp at hb; subst hb; exact M₁.core.free hI, fun b hb => by simp at hb; subst hb; exact ⟨.of_none (M₁.core.free hI).1, hno⟩⟩
    refine codeAny_mono (for_run J g hk ht hb M₂ st0 L q₁) fun r s₃ h₃ => ?_
    obtain ⟨f, fl, ρ₃, σ₃, rfl, fr, M₃, T₃, q₃⟩ := h₃
    refine ⟨fl, ρ₃, σ₃, fr, M₃, T₁.trans (Step.less ((T₂.more fun a z => .inl z).trans T₃) fun a o e z => ?_), q₃⟩
    rcases z with z | z
    · exact z
    · simp at z; subst z; rw [hI] at e; cases e
theorem SoundS.while {c : Expr} {x : X} {body : List Stmt} {xs : List Mine.S} {pos : Pos} (hc : SoundE prog w B vars S n kd c x) (hb : SoundSs prog w B vars S n kd body xs) : SoundS prog w B vars S n kd (.While c body [] pos) (.while x xs) := fun env A ρ σ s Q hk g M q => by
  dsimp only [ws_expr, ws_asg, ws_setItem, ws_ret, ws_ite, ws_for, ws_forEnum, ws_while] at q
  obtain ⟨m, q⟩ := q
  refine wpAny_While ?_
  refine codeAny_whileLoop (fun k s' => ∃ ρ' σ', Sim prog w B vars env ρ' σ' s' ∧ Step (Own env) σ s σ' s' ∧ whileW (fun ρ σ Q => wpE S x ρ σ (asBool Q)) (fun ρ σ Q => wpSs S xs ρ σ Q) k ρ' σ' Q) ?_ m ⟨ρ, σ, M, .refl, q⟩
  rintro k s₀ ⟨ρ₀, σ₀, M₀, T₀, q₀⟩
  cases k with
  | zero => exact q₀.elim
  | succ k =>
    simp only [whileW] at q₀
    refine wpAny_mono (hc.tr env A ρ₀ σ₀ s₀ _ hk g M₀ q₀) (fun t s₁ h₁ => ?_) fun _ _ x => x.elim
    obtain ⟨σ₁, M₁, T₁, q₁⟩ := h₁
    cases t with
    | false => exact wpAny_execs_nil ⟨.next, ρ₀, σ₁, rfl, M₁, T₀.trans T₁, q₁⟩
    | true =>
      refine wpAny_mono (hb env A ρ₀ σ₁ s₁ _ hk g M₁ q₁) (fun f s₂ h₂ => ?_) fun _ _ x => x.elim
      obtain ⟨fl, ρ₂, σ₂, fr, M₂, T₂, q₂⟩ := h₂
      cases fl with
      | next => simp only [FRel] at fr; subst fr; exact ⟨k, Nat.lt_succ_self k, ρ₂, σ₂, M₂, (T₀.trans T₁).trans T₂, q₂⟩
      | ret y => obtain ⟨u, rfl, ru⟩ := fr; exact ⟨.ret y, ρ₂, σ₂, ⟨u, rfl, ru⟩, M₂, (T₀.trans T₁).trans T₂, q₂⟩
end
end Mine

namespace Mine
open PySem PyProof.Rows

section
variable {prog : Program} {w : World} {B : Shared} {vars : List Str} {S : Spec} {n : Nat} {G : Gl} {kd : Str → Option NameKind} {env : Env} {ρ ρ' : Loc} {σ σ₁ σ' : Store} {s s₁ s' : Shared} {A : Around}

theorem compLoop_own {R : Result → Shared → Prop} {elt target iter : Expr} {ifs : List Expr} {scope : Scope} {pos : Pos} {it acc : Value} {env : Env} (I : Nat → Shared → Prop)
    (turn : ∀ k s, I k s → wpAny (model prog w) A (pyNext it) (fun r s₁ => match r with
      | none => R (.ok .next) s₁
      | some v => wpAny (model prog w) A (letOwnedTupleGo target it v) (fun _ s₂ => wpAny (model prog w) A (assign target env v) (fun _ s₃ =>
          wpAny (model prog w) A (forIn ifs true fun c r => if r = true then do let ok ← isTrue c env (eval c env); pure (ForInStep.yield ok) else pure (ForInStep.yield r)) (fun ok s₄ =>
            if ok = true then wpAny (model prog w) A (eval elt env) (fun x s₅ =>
              wpAny (model prog w) A (call (.builtin "list.append") [acc, x]) (fun _ s₆ => ∃ m, m < k ∧ I m s₆) (fun _ _ => False) s₅) (fun _ _ => False) s₄
            else ∃ m, m < k ∧ I m s₄) (fun _ _ => False) s₃) (fun _ _ => False) s₂) (fun _ _ => False) s₁) (fun _ _ => False) s)
    (k : Nat) (h : I k s) : codeAny (model prog w) A (.compLoop (.ListComp elt [⟨target, iter, ifs, 0⟩] scope pos) 0 it acc env) R s := by
  refine codeAny_loop rfl I (fun k s hI => ?_) k h
  show wpAny _ A ((compTurn (.ListComp elt [⟨target, iter, ifs, 0⟩] scope pos) 0 it acc env).onRaise (fun x => do noteFrame x env; theTreesLotGoes x)) _ _ s
  refine wpAny_noted ?_
  rw [compTurn_list]
  refine wpAny_bind (wpAny_standAt (wpAny_bind (wpAny_mono (turn k s hI) (fun r s₁ h₁ => ?_) fun _ _ h' => h'.elim)))
  cases r with
  | none => exact wpAny_pure h₁
  | some v =>
    refine wpAny_bind (wpAny_mono h₁ (fun _ s₂ h₂ => wpAny_bind (wpAny_mono h₂ (fun _ s₃ h₃ => wpAny_bind (wpAny_mono h₃ (fun ok s₄ h₄ => ?_) fun _ _ h' => h'.elim)) fun _ _ h' => h'.elim)) fun _ _ h' => h'.elim)
    cases ok with
    | false => exact wpAny_pure ⟨rfl, h₄⟩
    | true => exact wpAny_bind (wpAny_bind (wpAny_mono h₄ (fun x s₅ h₅ => wpAny_bind (wpAny_mono h₅ (fun _ s₆ h₆ => wpAny_pure (wpAny_pure ⟨rfl, h₆⟩)) fun _ _ h' => h'.elim)) fun _ _ h' => h'.elim))
/-- the ids of a target -/
noncomputable def Tgt.ids : Tgt → List Nat
  | .one i => [i]
  | .many is => is
theorem bindMany_agree {ρ₁ : Loc} : ∀ {is : List Nat} {l : List V} {ρ ρ₂ : Loc}, bindMany is l ρ = some ρ₁ → (∀ j, j ∉ is → ρ j = ρ₂ j) → bindMany is l ρ₂ = some ρ₁
  | [], [], ρ, ρ₂, h, ha => by
    simp only [bindMany] at h ⊢; rw [← h]; congr 1; funext j; exact (ha j (by simp)).symm
  | [], _ :: _, _, _, h, _ => by simp [bindMany] at h
  | _ :: _, [], _, _, h, _ => by simp [bindMany] at h
  | i :: is, y :: l, ρ, ρ₂, h, ha => by
    simp only [bindMany] at h ⊢
    refine bindMany_agree h fun j hj => ?_
    simp only [Loc.set]
    split
    · rfl
    · rename_i hi; exact ha j (by simp [hi, hj])
theorem bindMany_else {ρ₁ : Loc} : ∀ {is : List Nat} {l : List V} {ρ : Loc}, bindMany is l ρ = some ρ₁ → ∀ j, j ∉ is → ρ₁ j = ρ j
  | [], [], ρ, h, j, _ => by simp only [bindMany] at h; cases h; rfl
  | [], _ :: _, _, h, _, _ => by simp [bindMany] at h
  | _ :: _, [], _, h, _, _ => by simp [bindMany] at h
  | i :: is, y :: l, ρ, h, j, hj => by
    simp only [bindMany] at h
    simp at hj
    rw [bindMany_else h j hj.2]; simp [Loc.set, hj.1]
theorem bindT_agree {tg : Tgt} {y : V} {ρ ρ₁ ρ₂ : Loc} (h : bindT tg y ρ = some ρ₁) (ha : ∀ j, j ∉ tg.ids → ρ j = ρ₂ j) : bindT tg y ρ₂ = some ρ₁ := by
  cases tg with
  | one i =>
    simp only [bindT] at h ⊢; cases h; congr 1; funext j
    simp only [Loc.set]; split
    · rfl
    · rename_i hi; exact (ha j (by simpa [Tgt.ids] using hi)).symm
  | many is => cases y <;> simp only [bindT] at h ⊢ <;> first | exact bindMany_agree h ha | cases h
theorem bindT_else {tg : Tgt} {y : V} {ρ ρ₁ : Loc} (h : bindT tg y ρ = some ρ₁) {j : Nat} (hj : j ∉ tg.ids) : ρ₁ j = ρ j := by
  cases tg with
  | one i => simp only [bindT] at h; cases h; simp [Tgt.ids] at hj; simp [Loc.set, hj]
  | many is => cases y <;> simp only [bindT] at h <;> first | exact bindMany_else h j hj | cases h
/-- the names of a comprehension's block, as its env has them -/
noncomputable def relab (names : List (Str × NameKind)) (kd : Str → Option NameKind) : List (Str × NameKind) := names.map fun (m, k) => if (k == .free && kd m == some .cell) then (m, .cell) else (m, k)
noncomputable def kdIn (scope : Scope) (kd : Str → Option NameKind) : Str → Option NameKind := fun x => (relab scope.names kd).lookup x
theorem kdIn_eq {scope : Scope} {cl : List (Str × Addr)} {C : Addr} (hk : env.kindOf = kd) (hf : env.scope.kind = .function) : (compEnvC scope cl C env).kindOf = kdIn scope kd := by
  funext x
  show (relabel scope env).names.lookup x = _
  unfold relabel kdIn relab
  have e : (ScopeKind.function == ScopeKind.function) = true := rfl
  simp only [hf, hk, e, Bool.and_true]
theorem kdIn_look {scope : Scope} {x : Str} : ∀ {k : NameKind}, kdIn scope kd x = some k → scope.names.lookup x = some k ∨ (k = .cell ∧ scope.names.lookup x = some .free) := by
  unfold kdIn relab
  intro k
  generalize scope.names = names
  induction names with
  | nil => intro h; simp at h
  | cons p r ih =>
    obtain ⟨m, k'⟩ := p
    intro h
    simp only [List.map_cons] at h
    by_cases hx : (x == m) = true
    · by_cases hc : (k' == .free && kd m == some .cell) = true
      · rw [if_pos hc] at h
        simp only [List.lookup_cons, hx] at h ⊢
        cases h
        simp only [Bool.and_eq_true, beq_iff_eq] at hc
        right; exact ⟨rfl, by rw [hc.1]⟩
      · rw [if_neg hc] at h
        simp only [List.lookup_cons, hx] at h ⊢
        left; exact h
    · by_cases hc : (k' == .free && kd m == some .cell) = true
      · rw [if_pos hc] at h; simp only [List.lookup_cons, hx] at h ⊢; exact ih h
      · rw [if_neg hc] at h; simp only [List.lookup_cons, hx] at h ⊢; exact ih h
/-- what must hold of a comprehension's block -/
structure CompOK (vars : List Str) (kd : Str → Option NameKind) (scope : Scope) (tg : Tgt) : Prop where
  kind : scope.kind = .function
  nodup : (scope.names.map (·.1)).Nodup
  nocell : ∀ y ∈ scope.names, y.2 ≠ .cell
  free : ∀ y ∈ scope.names, y.2 = .free → kd y.1 = some .cell ∨ kd y.1 = some .free
  ids : ∀ i ∈ tg.ids, ∃ x, vars[i]? = some x ∧ scope.names.lookup x = some .local
  loc : ∀ (i : Nat) x, vars[i]? = some x → scope.names.lookup x = some .local → i ∈ tg.ids
theorem lookup_of_mem' {α : Type} : ∀ {l : List (Str × α)} {x : Str} {a : α}, (l.map (·.1)).Nodup → (x, a) ∈ l → l.lookup x = some a
  | (k, v) :: r, x, a, hn, hm => by
    simp only [List.map_cons, List.nodup_cons] at hn
    rw [List.lookup_cons]
    rcases List.mem_cons.mp hm with e | hm
    · cases e; simp
    · have : x ≠ k := fun e => hn.1 (e ▸ List.mem_map.mpr ⟨_, hm, rfl⟩)
      have hb : (x == k) = false := by simpa using this
      simp only [hb]; exact lookup_of_mem' hn.2 hm
/-- the cells that a comprehension's block is given -/
noncomputable def closOf (cells : List (Str × Addr)) : List (Str × NameKind) → List (Str × Addr) → List (Str × Addr)
  | [], acc => acc
  | (m, k) :: r, acc => closOf cells r (if k == .free then (m, (cells.lookup m).getD 0) :: acc else acc)
theorem clos_eq {scope : Scope} (h : ∀ y ∈ scope.names, y.2 = .free → ∃ c, env.cells.lookup y.1 = some c) : closureFor scope env = pure (closOf env.cells scope.names []) := by
  have key : ∀ (names : List (Str × NameKind)) (acc : List (Str × Addr)), (∀ y ∈ names, y.2 = .free → ∃ c, env.cells.lookup y.1 = some c) →
      (forIn (m := Sem) names acc fun (x : Str × NameKind) r => if (x.2 == .free) = true then do let c ← cellOf env x.1; pure (ForInStep.yield ((x.1, c) :: r)) else pure (ForInStep.yield r)) = pure (closOf env.cells names acc) := by
    intro names
    induction names with
    | nil => intro acc _; rfl
    | cons y r ih =>
      intro acc hy
      obtain ⟨m, k⟩ := y
      rw [List.forIn_cons]
      unfold closOf
      have ih' := fun acc => ih acc fun y hm hf => hy y (List.mem_cons_of_mem _ hm) hf
      by_cases hk : (k == .free) = true
      · obtain ⟨c, hc⟩ := hy (m, k) (.head _) (by simpa using hk)
        simp only [hk, if_true]
        have e1 : cellOf env m = pure c := by unfold cellOf; rw [hc]
        rw [e1, hc]
        exact ih' _
      · simp only [hk]
        exact ih' _
  unfold closureFor
  exact (by
    have := key scope.names [] h
    simpa using this)
theorem clos_look {cells : List (Str × Addr)} : ∀ {names : List (Str × NameKind)} {acc : List (Str × Addr)} {x : Str} {c : Addr}, (closOf cells names acc).lookup x = some c → acc.lookup x = some c ∨ ((x, NameKind.free) ∈ names ∧ c = (cells.lookup x).getD 0)
  | [], _, _, _, h => .inl h
  | (m, k) :: r, acc, x, c, h => by
    unfold closOf at h
    rcases clos_look h with h | ⟨h1, h2⟩
    · by_cases hk : (k == .free) = true
      · rw [if_pos hk] at h
        rw [List.lookup_cons] at h
        by_cases hx : (x == m) = true
        · simp only [hx] at h; cases h
          right
          have := beq_iff_eq.mp hk; have hx' := beq_iff_eq.mp hx
          subst this; subst hx'
          exact ⟨.head _, rfl⟩
        · simp only [hx] at h; exact .inl h
      · rw [if_neg hk] at h; exact .inl h
    · exact .inr ⟨List.mem_cons_of_mem _ h1, h2⟩
theorem clos_has {cells : List (Str × Addr)} : ∀ {names : List (Str × NameKind)} {acc : List (Str × Addr)} {x : Str}, ((x, NameKind.free) ∈ names ∨ ∃ c, acc.lookup x = some c) → ∃ c, (closOf cells names acc).lookup x = some c
  | [], acc, x, h => by
    rcases h with h | h
    · cases h
    · exact h
  | (m, k) :: r, acc, x, h => by
    unfold closOf
    refine clos_has ?_
    rcases h with h | ⟨c, h⟩
    · rcases List.mem_cons.mp h with e | h
      · cases e
        right
        simp
      · exact .inl h
    · right
      by_cases hk : (k == .free) = true
      · rw [if_pos hk, List.lookup_cons]
        by_cases hx : (x == m) = true
        · simp only [hx]; exact ⟨_, rfl⟩
        · simp only [hx]; exact ⟨c, h⟩
      · rw [if_neg hk]; exact ⟨c, h⟩
/-- the cells of the block, as the function has them -/
theorem clos_sub {scope : Scope} {tg : Tgt} (K : CompOK vars kd scope tg) (hk : env.kindOf = kd) (F : FrameOK B vars env ρ σ s.heap) {x : Str} {c : Addr} (h : (closOf env.cells scope.names []).lookup x = some c) : env.cells.lookup x = some c ∧ scope.names.lookup x = some .free := by
  rcases clos_look h with h | ⟨h1, h2⟩
  · simp at h
  · obtain ⟨c', hc⟩ := F.has x (by rw [hk]; exact K.free _ h1 rfl)
    rw [hc] at h2
    exact ⟨by rw [hc, h2]; rfl, lookup_of_mem' K.nodup h1⟩
theorem clos_of {scope : Scope} {x : Str} {cells : List (Str × Addr)} (h : scope.names.lookup x = some .free) : ∃ c, (closOf cells scope.names []).lookup x = some c := clos_has (.inl (mem_of_lookup h))
/-- the block of a comprehension is entered -/
theorem enter_comp {scope : Scope} {tg : Tgt} (K : CompOK vars kd scope tg) (hk : env.kindOf = kd) (M : Sim prog w B vars env ρ σ s) {C : Addr} {h' : Heap} {tk : Nat} (hC : s.heap.get? C = none) (hkeep : ∀ b o, s.heap.get? b = some o → h'.get? b = some o) (hns : h'.Ns C fun _ => none) :
    Sim prog w B vars (compEnvC scope (closOf env.cells scope.names []) C env) (fun i => if i ∈ tg.ids then none else ρ i) σ { s with heap := h', toks := tk } := by
  have ht : ∀ a o, s.heap.get? a = some o → tupLike o → h'.get? a = some o := fun a o e _ => hkeep a o e
  have hkd := kdIn_eq (scope := scope) (cl := closOf env.cells scope.names []) (C := C) hk M.frame.kind
  have fr : ∀ x, (kdIn scope kd x = some .cell ∨ kdIn scope kd x = some .free) → scope.names.lookup x = some .free := fun x h => by
    rcases h with h | h
    · rcases kdIn_look h with h | ⟨_, h⟩
      · exact absurd rfl (K.nocell _ (mem_of_lookup h))
      · exact h
    · rcases kdIn_look h with h | ⟨h, _⟩
      · exact h
      · cases h
  refine ⟨M.core.keeps tk hkeep, ⟨⟨_, hns, fun i x v hx hv hl => ?_⟩, fun o e => ?_, fun i x v hx hv hl => ?_, fun x c hc => ?_, fun x y c hx hy => ?_, fun x hx => ?_, fun a ha => ?_, K.kind, M.frame.glob, M.frame.bltn⟩⟩
  · rw [hkd] at hl
    rcases kdIn_look hl with hl | ⟨hl, _⟩
    · rw [if_pos (K.loc i x hx hl)] at hv; cases hv
    · cases hl
  · obtain ⟨o', es, ep, ho, hd, _⟩ := hns
    have e' : h'.get? C = some o := e
    rw [ho] at e'; cases e'
    exact fun z => z.2.1 _ _ hd
  · rw [hkd] at hl
    have hf := fr x hl
    have hvi : ρ i = some v := by
      by_cases z : i ∈ tg.ids
      · rw [if_pos z] at hv; cases hv
      · rw [if_neg z] at hv; exact hv
    obtain ⟨c, u, h1, ⟨o, h2, h3⟩, h4⟩ := M.frame.cell i x v hx hvi (by rw [hk]; exact K.free _ (mem_of_lookup hf) rfl)
    obtain ⟨c', hc'⟩ := clos_of (cells := env.cells) hf
    have := (clos_sub K hk M.frame hc').1
    rw [h1] at this; cases this
    exact ⟨c, u, hc', ⟨o, hkeep _ _ h2, h3⟩, h4.keep ht⟩
  · obtain ⟨h1, _⟩ := clos_sub K hk M.frame hc
    obtain ⟨⟨u, o, h2, h3⟩, h4, h5⟩ := M.frame.cells x c h1
    refine ⟨⟨u, o, hkeep _ _ h2, h3⟩, fun z => ?_, fun o' e => ?_⟩
    · have z' : c = C := z
      rw [z', hC] at h2; cases h2
    · rw [hkeep _ _ h2] at e; cases e; exact h5 _ h2
  · exact M.frame.inj x y c (clos_sub K hk M.frame hx).1 (clos_sub K hk M.frame hy).1
  · rw [hkd] at hx; exact clos_of (fr x hx)
  · rcases ha with rfl | ⟨x, hx⟩
    · exact M.core.free hC
    · exact M.frame.own a (.inr ⟨x, (clos_sub K hk M.frame hx).1⟩)
/-- back from the block: the function's own frame stands -/
theorem leave_comp {scope : Scope} {tg : Tgt} {ρc : Loc} {C : Addr} {W : Addr → Prop} {s₁ s₂ : Shared} {σ₂ : Store} (K : CompOK vars kd scope tg) (hk : env.kindOf = kd) (M : Sim prog w B vars env ρ σ s₁) (hC : s₁.heap.get? C = none)
    (M' : Sim prog w B vars (compEnvC scope (closOf env.cells scope.names []) C env) ρc σ₂ s₂) (hρ : ∀ j, j ∉ tg.ids → ρc j = ρ j)
    (T : Step (fun a => Own (compEnvC scope (closOf env.cells scope.names []) C env) a ∨ W a) σ s₁ σ₂ s₂) (hW : ∀ a o, W a → s₁.heap.get? a = some o → False) : Sim prog w B vars env ρ σ₂ s₂ ∧ Step (Own env) σ s₁ σ₂ s₂ := by
  have sub : ∀ a, Own (compEnvC scope (closOf env.cells scope.names []) C env) a → a = C ∨ ∃ x, env.cells.lookup x = some a ∧ scope.names.lookup x = some .free ∧ (closOf env.cells scope.names []).lookup x = some a := fun a ha => by
    rcases ha with rfl | ⟨x, hx⟩
    · exact .inl rfl
    · exact .inr ⟨x, (clos_sub K hk M.frame hx).1, (clos_sub K hk M.frame hx).2, hx⟩
  have T' : Step (Own env) σ s₁ σ₂ s₂ := T.less fun a o e ha => by
    rcases ha with ha | ha
    · rcases sub a ha with rfl | ⟨x, hx, _⟩
      · rw [hC] at e; cases e
      · exact .inr ⟨x, hx⟩
    · exact (hW a o ha e).elim
  have ht := T'.tups M.core M.frame.notTup
  have hkd := kdIn_eq (scope := scope) (cl := closOf env.cells scope.names []) (C := C) hk M.frame.kind
  -- what is not the block's own
  have kept : ∀ a o, s₁.heap.get? a = some o → Own env a → ¬ Own (compEnvC scope (closOf env.cells scope.names []) C env) a → s₂.heap.get? a = some o := fun a o e ha hn =>
    T.keep a o e (.of_none (M.frame.own a ha).1) fun z => z.elim hn fun z => hW a o z e
  have hL : ¬ Own (compEnvC scope (closOf env.cells scope.names []) C env) env.locals := fun z => by
    obtain ⟨o, e⟩ := M.frame.exists (.inl rfl : Own env env.locals)
    rcases sub _ z with z | ⟨x, hx, _⟩
    · rw [z, hC] at e; cases e
    · exact (M.frame.cells x _ hx).2.1 rfl
  have cellCase : ∀ x c, env.cells.lookup x = some c → (scope.names.lookup x = some .free ∧ (closOf env.cells scope.names []).lookup x = some c) ∨ ¬ Own (compEnvC scope (closOf env.cells scope.names []) C env) c := fun x c hx => by
    by_cases z : Own (compEnvC scope (closOf env.cells scope.names []) C env) c
    · left
      rcases sub _ z with z | ⟨y, h1, h2, h3⟩
      · obtain ⟨⟨u, o, e, _⟩, _⟩ := M.frame.cells x c hx
        rw [z, hC] at e; cases e
      · have := M.frame.inj x y c hx h1
        subst this; exact ⟨h2, h3⟩
    · exact .inr z
  have notloc : ∀ (i : Nat) x, vars[i]? = some x → scope.names.lookup x = some .free → i ∉ tg.ids := fun i x hx hf z => by
    obtain ⟨y, h1, h2⟩ := K.ids i z
    rw [hx] at h1; cases h1; rw [hf] at h2; cases h2
  have kdfree : ∀ x, scope.names.lookup x = some .free → kdIn scope kd x = some .cell ∨ kdIn scope kd x = some .free := fun x h => by
    unfold kdIn relab
    revert h
    generalize scope.names = names
    induction names with
    | nil => intro h; simp at h
    | cons p r ih =>
      obtain ⟨m, k'⟩ := p
      intro h
      simp only [List.map_cons]
      by_cases hx : (x == m) = true
      · simp only [List.lookup_cons, hx] at h; cases h
        split
        · left; simp only [List.lookup_cons, hx]
        · right; simp only [List.lookup_cons, hx]
      · simp only [List.lookup_cons, hx] at h
        split <;> (simp only [List.lookup_cons, hx]; exact ih h)
  refine ⟨⟨M'.core, ⟨?_, fun o e => ?_, fun i x v hx hv hl => ?_, fun x c hc => ?_, M.frame.inj, M.frame.has, fun a ha => ?_, M.frame.kind, M.frame.glob, M.frame.bltn⟩⟩, T'⟩
  · obtain ⟨m, ⟨o, es, ep, ho, r⟩, hm⟩ := M.frame.ns
    refine ⟨m, ⟨o, es, ep, kept _ _ ho (.inl rfl) hL, r⟩, fun i x v hx hv hl => ?_⟩
    obtain ⟨u, h1, h2⟩ := hm i x v hx hv hl
    exact ⟨u, h1, h2.keep ht⟩
  · obtain ⟨m, ⟨o', es, ep, ho, r⟩, hm⟩ := M.frame.ns
    rw [kept _ _ ho (.inl rfl) hL] at e; cases e; exact M.frame.nsObj _ ho
  · obtain ⟨c, u, h1, ⟨o, h2, h3⟩, h4⟩ := M.frame.cell i x v hx hv hl
    rcases cellCase x c h1 with ⟨hf, hc⟩ | hn
    · obtain ⟨c', u', k1, k2, k3⟩ := M'.frame.cell i x v hx (by rw [hρ i (notloc i x hx hf)]; exact hv) (by rw [hkd]; exact kdfree x hf)
      have k1' : (closOf env.cells scope.names []).lookup x = some c' := k1
      rw [hc] at k1'; cases k1'
      exact ⟨c, u', h1, k2, k3⟩
    · exact ⟨c, u, h1, ⟨o, kept _ _ h2 (.inr ⟨x, h1⟩) hn, h3⟩, h4.keep ht⟩
  · obtain ⟨⟨u, o, h2, h3⟩, h4, h5⟩ := M.frame.cells x c hc
    rcases cellCase x c hc with ⟨hf, hcl⟩ | hn
    · obtain ⟨a, _, b⟩ := M'.frame.cells x c hcl
      exact ⟨a, h4, b⟩
    · refine ⟨⟨u, o, kept _ _ h2 (.inr ⟨x, hc⟩) hn, h3⟩, h4, fun o' e => ?_⟩
      rw [kept _ _ h2 (.inr ⟨x, hc⟩) hn] at e; cases e; exact h5 _ h2
  · refine ⟨?_, (M.frame.own a ha).2⟩
    by_cases z : Own (compEnvC scope (closOf env.cells scope.names []) C env) a
    · exact (M'.frame.own a z).1
    · obtain ⟨o, e⟩ := M.frame.exists ha
      exact T.no a o e (M.frame.own a ha).1 fun y => y.elim z fun y => hW a o y e
end
end Mine

namespace Mine
open PySem PyProof.Rows

section
variable {prog : Program} {w : World} {B : Shared} {vars : List Str} {S : Spec} {n : Nat} {G : Gl} {kd : Str → Option NameKind} {env : Env} {ρ ρ' : Loc} {σ σ₁ σ' : Store} {s s₁ s' : Shared} {A : Around}

/-- the list that a comprehension fills -/
structure AccOK (B : Shared) (env : Env) (D : Addr) (σ : Store) (h : Heap) (l : List V) (k : Nat) : Prop where
  s : σ D = none
  b : B.heap.get? D = none
  o : ¬ Own env D
  p : ∃ vs : Array Value, h.PlainList D vs ∧ VRels h l vs.toList ∧ vs.size ≤ k
theorem plain_notTup {h : Heap} {D : Addr} {vs : Array Value} (p : h.PlainList D vs) : ∀ o, h.get? D = some o → ¬ tupLike o := fun o e => by
  obtain ⟨m, g⟩ := p
  rw [g] at e; cases e; unfold tupLike; simp
theorem AccOK.kept {D : Addr} {h h' : Heap} {l : List V} {k : Nat} (C : AccOK B env D σ h l k) (hk : ∀ o, h.get? D = some o → h'.get? D = some o) (ht : ∀ a o, h.get? a = some o → tupLike o → h'.get? a = some o) (hs : σ' D = none) : AccOK B env D σ' h' l k :=
  ⟨hs, C.b, C.o, let ⟨vs, a, b, c⟩ := C.p; ⟨vs, a.at hk, b.keep ht, c⟩⟩
theorem AccOK.step {D : Addr} {l : List V} {k : Nat} (C : AccOK B env D σ s.heap l k) (M : Sim prog w B vars env ρ σ s) (T : Step (Own env) σ s σ' s') : AccOK B env D σ' s'.heap l k := by
  obtain ⟨vs, ⟨m, g⟩, _, _⟩ := C.p
  exact C.kept (fun o e => T.keep D o e (.of_none C.s) C.o) (T.tups M.core M.frame.notTup) (T.no D _ g C.s C.o)
theorem comp_run {cenv : Env} {I D : Addr} {items : List V} {ok : Store → Prop} {St : Nat → Heap → Prop} {target elt iter : Expr} {ifs : List Expr} {scope : Scope} {pos : Pos} {tg : Tgt} {cnd : V → Store → (Bool → Store → Prop) → Prop} {el : V → Store → Post → Prop}
    {K : List V → Store → Prop} {kc : Str → Option NameKind} {ρc : Loc} (J : Iter prog w B I [I] [I] items ok St) (g : Good A n) (hk : cenv.kindOf = kc) (ht : SoundT prog w B vars kc target tg) (hz : items.length ≤ 1000000)
    (htest : ∀ ρ₁ σ s Q y, bindT tg y ρ = some ρ₁ → Sim prog w B vars cenv ρ₁ σ s → cnd y σ Q →
      wpAny (model prog w) A (forIn ifs true fun c r => if r = true then do let ok ← isTrue c cenv (eval c cenv); pure (ForInStep.yield ok) else pure (ForInStep.yield r)) (GotB prog w B vars cenv ρ₁ σ s Q) (fun _ _ => False) s)
    (helt : ∀ ρ₁ σ s Q y, bindT tg y ρ = some ρ₁ → Sim prog w B vars cenv ρ₁ σ s → el y σ Q → wpAny (model prog w) A (eval elt cenv) (Got prog w B vars cenv ρ₁ σ s Q) (fun _ _ => False) s)
    (hbind : ∀ y σ Q, cnd y σ Q → ∃ ρ₁, bindT tg y ρ = some ρ₁)
    (M : Sim prog w B vars cenv ρc σ s) (hρ : ∀ j, j ∉ tg.ids → ρc j = ρ j) (st : St 0 s.heap) (L : LooseOK B cenv [I] [I] σ s) (C : AccOK B cenv D σ s.heap [] 0) (hDI : D ≠ I) (q : compW ok cnd el items [] σ K) {R : Result → Shared → Prop}
    (hR : ∀ ρe σe l se, Sim prog w B vars cenv ρe σe se → (∀ j, j ∉ tg.ids → ρe j = ρ j) → AccOK B cenv D σe se.heap l 1000000 → Step (fun a => Own cenv a ∨ (a = I ∨ a = D)) σ s σe se → K l σe → R (.ok .next) se) :
    codeAny (model prog w) A (.compLoop (.ListComp elt [⟨target, iter, ifs, 0⟩] scope pos) 0 (.ref I) (.ref D) cenv) R s := by
  refine compLoop_own (fun m s' => ∃ k ρ' σ' l, m = items.length + 1 - k ∧ k ≤ items.length ∧ Sim prog w B vars cenv ρ' σ' s' ∧ (∀ j, j ∉ tg.ids → ρ' j = ρ j) ∧ St k s'.heap ∧ LooseOK B cenv [I] [I] σ' s' ∧ AccOK B cenv D σ' s'.heap l k ∧
    Step (fun a => Own cenv a ∨ (a = I ∨ a = D)) σ s σ' s' ∧ compW ok cnd el (items.drop k) l σ' K) ?_ (items.length + 1) ⟨0, ρc, σ, [], rfl, Nat.zero_le _, M, hρ, st, L, C, .refl, by simpa using q⟩
  rintro m s₀ ⟨k, ρ₀, σ₀, l, rfl, hkl, M₀, hρ₀, st₀, L₀, C₀, T₀, q₀⟩
  have lift : ∀ {σa σb : Store} {sa sb : Shared}, Step (Own cenv) σa sa σb sb → Step (fun a => Own cenv a ∨ (a = I ∨ a = D)) σa sa σb sb := fun T => T.more fun _ z => .inl z
  by_cases hlt : k < items.length
  · have hx : items[k]? = some items[k] := List.getElem?_eq_getElem hlt
    rw [List.drop_eq_getElem_cons hlt] at q₀
    simp only [compW] at q₀
    obtain ⟨hok, q₁⟩ := q₀
    obtain ⟨ρ₁, hρ₁⟩ := hbind _ _ _ q₁
    have hb₀ : bindT tg items[k] ρ₀ = some ρ₁ := bindT_agree hρ₁ fun j hj => (hρ₀ j hj).symm
    have hag : ∀ j, j ∉ tg.ids → ρ₁ j = ρ j := fun j hj => bindT_else hρ₁ hj
    refine J.next A k items[k] σ₀ s₀ _ _ g.hd hx st₀ M₀.core hok fun v h₁ tk₁ rv st₁ hk₁ => ?_
    have M₁ := J.moved L₀ M₀ st₀ tk₁ hk₁
    have T₁ : Step (fun a => Own cenv a ∨ (a = I ∨ a = D)) σ₀ s₀ σ₀ { s₀ with heap := h₁, toks := tk₁ } := Step.move fun b o hb e => hk₁ b o (fun z => hb (.inr (.inl (by simpa using z)))) e
    have L₁ : LooseOK B cenv [I] [I] σ₀ { s₀ with heap := h₁, toks := tk₁ } := ⟨L₀.w, L₀.f⟩
    have C₁ : AccOK B cenv D σ₀ h₁ l k := C₀.kept (fun o e => hk₁ D o (by simpa using hDI) e) (fun a o e htl => hk₁ a o (fun z => J.loose k _ a o st₀ z e htl) e) C₀.s
    refine J.owned A k v target _ _ _ st₁ fun h₂ tk₂ st₂ hk₂ => ?_
    have M₂ := J.moved L₁ M₁ st₁ tk₂ hk₂
    have T₂ : Step (fun a => Own cenv a ∨ (a = I ∨ a = D)) σ₀ { s₀ with heap := h₁, toks := tk₁ } σ₀ { s₀ with heap := h₂, toks := tk₂ } := Step.move fun b o hb e => hk₂ b o (fun z => hb (.inr (.inl (by simpa using z)))) e
    have rv₂ : VRel h₂ items[k] v := rv.keep fun c o e htl => hk₂ c o (fun z => J.loose (k + 1) _ c o st₁ z e htl) e
    have C₂ : AccOK B cenv D σ₀ h₂ l k := C₁.kept (fun o e => hk₂ D o (by simpa using hDI) e) (fun a o e htl => hk₂ a o (fun z => J.loose (k + 1) _ a o st₁ z e htl) e) C₀.s
    refine ht cenv A ρ₀ ρ₁ σ₀ _ _ v _ _ hk g.hd M₂ rv₂ hb₀ fun h₃ tk₃ M₃ hk₃ => ?_
    have T₃ : Step (Own cenv) σ₀ { s₀ with heap := h₂, toks := tk₂ } σ₀ { s₀ with heap := h₃, toks := tk₃ } := Step.move hk₃
    have st₃ : St (k + 1) h₃ := J.frame _ _ _ st₂ fun b hb o e => hk₃ b o (L₀.f b hb).2 e
    have C₃ : AccOK B cenv D σ₀ h₃ l k := C₂.step M₂ T₃
    have L₃ : LooseOK B cenv [I] [I] σ₀ { s₀ with heap := h₃, toks := tk₃ } := ⟨L₀.w, L₀.f⟩
    refine wpAny_mono (htest ρ₁ σ₀ _ _ _ hρ₁ M₃ q₁) (fun b s₄ h₄ => ?_) fun _ _ x => x
    obtain ⟨σ₄, M₄, T₄, q₄⟩ := h₄
    have st₄ : St (k + 1) s₄.heap := J.frame _ _ _ st₃ fun b hb o e => T₄.keep b o e (L₀.f b hb).1 (L₀.f b hb).2
    have C₄ : AccOK B cenv D σ₄ s₄.heap l k := C₃.step M₃ T₄
    have L₄ : LooseOK B cenv [I] [I] σ₄ s₄ := L₃.step J.sub (fun b hb => J.live _ _ b st₃ hb) T₄
    have TT₄ : Step (fun a => Own cenv a ∨ (a = I ∨ a = D)) σ s σ₄ s₄ := (T₀.trans (T₁.trans T₂)).trans ((lift T₃).trans (lift T₄))
    cases b with
    | false => exact ⟨items.length + 1 - (k + 1), by omega, k + 1, ρ₁, σ₄, l, rfl, hlt, M₄, hag, st₄, L₄, ⟨C₄.s, C₄.b, C₄.o, let ⟨vs, a, b, c⟩ := C₄.p; ⟨vs, a, b, by omega⟩⟩, TT₄, q₄⟩
    | true =>
      refine wpAny_mono (helt ρ₁ σ₄ s₄ _ _ hρ₁ M₄ q₄) (fun x s₅ h₅ => ?_) fun _ _ x => x
      obtain ⟨y, σ₅, ry, M₅, T₅, q₅⟩ := h₅
      have st₅ : St (k + 1) s₅.heap := J.frame _ _ _ st₄ fun b hb o e => T₅.keep b o e (L₄.f b hb).1 (L₄.f b hb).2
      have C₅ : AccOK B cenv D σ₅ s₅.heap l k := C₄.step M₄ T₅
      have L₅ : LooseOK B cenv [I] [I] σ₅ s₅ := L₄.step J.sub (fun b hb => J.live _ _ b st₄ hb) T₅
      obtain ⟨vs, hp, hr, hvs⟩ := C₅.p
      refine wpAny_list_append_plain hp (fun h₆ hp₆ hs₆ => ?_) (by rw [sizeLine_eq]; omega)
      have hk₆ : ∀ b o, ¬ (b = D) → s₅.heap.get? b = some o → h₆.get? b = some o := fun b o hb e => hs₆.extBut b o hb e
      have M₆ := M₅.move (· = D) s₅.toks hk₆ fun a ha => by subst ha; exact ⟨C₅.s, C₅.b, C₅.o, plain_notTup hp⟩
      have T₆ : Step (fun a => Own cenv a ∨ (a = I ∨ a = D)) σ₅ s₅ σ₅ { s₅ with heap := h₆ } := Step.move (tk := s₅.toks) fun b o hb e => hk₆ b o (fun z => hb (.inr (.inr z))) e
      have ht₆ : ∀ a o, s₅.heap.get? a = some o → tupLike o → h₆.get? a = some o := fun a o e htl => hk₆ a o (fun z => by subst z; exact plain_notTup hp o e htl) e
      refine ⟨items.length + 1 - (k + 1), by omega, k + 1, ρ₁, σ₅, l ++ [y], rfl, hlt, M₆, hag, J.frame _ _ _ st₅ fun b hb o e => hk₆ b o (by simp at hb; subst hb; exact Ne.symm hDI) e, ⟨L₅.w, L₅.f⟩,
        ⟨C₅.s, C₅.b, C₅.o, vs.push x, hp₆, by rw [Array.toList_push]; exact (hr.keep ht₆).append (.one (ry.keep ht₆)), by simp; omega⟩, (TT₄.trans (lift T₅)).trans T₆, q₅⟩
  · have hke : k = items.length := by omega
    subst hke
    rw [List.drop_length] at q₀
    simp only [compW] at q₀
    refine J.done A σ₀ s₀ _ _ g.hd st₀ M₀.core q₀.1 fun h₁ tk₁ hk₁ => ?_
    have M₁ := J.moved L₀ M₀ st₀ tk₁ hk₁
    have T₁ : Step (fun a => Own cenv a ∨ (a = I ∨ a = D)) σ₀ s₀ σ₀ { s₀ with heap := h₁, toks := tk₁ } := Step.move fun b o hb e => hk₁ b o (fun z => hb (.inr (.inl (by simpa using z)))) e
    have C₁ : AccOK B cenv D σ₀ h₁ l items.length := C₀.kept (fun o e => hk₁ D o (by simpa using hDI) e) (fun a o e htl => hk₁ a o (fun z => J.loose _ _ a o st₀ z e htl) e) C₀.s
    exact hR ρ₀ σ₀ l _ M₁ hρ₀ ⟨C₁.s, C₁.b, C₁.o, let ⟨vs, a, b, c⟩ := C₁.p; ⟨vs, a, b, by omega⟩⟩ (T₀.trans T₁) q₀.2
/-- a comprehension from its source on -/
theorem comp_core {x : V} {v : Value} {items : List V} {ok : Store → Prop} {target elt iter : Expr} {ifs : List Expr} {scope : Scope} {pos : Pos} {tg : Tgt} {cnd : V → Store → (Bool → Store → Prop) → Prop} {el : V → Store → Post → Prop}
    {K : List V → Store → Prop} (KK : CompOK vars kd scope tg) (g : Good A n) (hk : env.kindOf = kd) (ht : SoundT prog w B vars (kdIn scope kd) target tg) (hz : items.length ≤ 1000000)
    (htest : ∀ (cenv : Env) ρ₁ σ s Q y, cenv.kindOf = kdIn scope kd → bindT tg y ρ = some ρ₁ → Sim prog w B vars cenv ρ₁ σ s → cnd y σ Q →
      wpAny (model prog w) A (forIn ifs true fun c r => if r = true then do let ok ← isTrue c cenv (eval c cenv); pure (ForInStep.yield ok) else pure (ForInStep.yield r)) (GotB prog w B vars cenv ρ₁ σ s Q) (fun _ _ => False) s)
    (helt : ∀ (cenv : Env) ρ₁ σ s Q y, cenv.kindOf = kdIn scope kd → bindT tg y ρ = some ρ₁ → Sim prog w B vars cenv ρ₁ σ s → el y σ Q → wpAny (model prog w) A (eval elt cenv) (Got prog w B vars cenv ρ₁ σ s Q) (fun _ _ => False) s)
    (hbind : ∀ y σ Q, cnd y σ Q → ∃ ρ₁, bindT tg y ρ = some ρ₁)
    (M : Sim prog w B vars env ρ σ s) (rv : VRel s.heap x v) (hsrc : Src σ x items ok) (q : compW ok cnd el items [] σ K) {RR : Value → Addr → Result → Shared → Prop}
    (hRR : ∀ D C m l σe se, s.heap.get? C = none → se.heap.Ns C m → σe D = none → Sim prog w B vars env ρ (σe.set D (.list true l)) se → Step (Own env) σ s (σe.set D (.list true l)) se → (σe.set D (.list true l)) C = none → B.heap.get? C = none → ¬ Own env C → K l σe → RR (.ref D) C (.ok .next) se) :
    wpAny (model prog w) A (pyIter v) (fun it s₂ => wpAny (model prog w) A (newList []) (fun acc s₃ => wpAny (model prog w) A (newFunctionEnv scope env.globals (closOf env.cells scope.names []) [] env.qual none .none (some env)) (fun cenv s₄ =>
      codeAny (model prog w) A (.compStart (.ListComp elt [⟨target, iter, ifs, 0⟩] scope pos) 0 it acc { cenv with scope := relabel scope env }) (RR acc cenv.locals) s₄) (fun _ _ => False) s₃) (fun _ _ => False) s₂) (fun _ _ => False) s := by
  refine src_iter M.core rv hsrc fun I St h₁ tk₁ hI J st₁ hk₁ hIo hok => ?_
  refine wpAny_newList (wpAny_newFunctionEnv KK.nocell (by intro y hy; simp at hy) (fun h₃ hns₃ hsb₃ => ?_) KK.kind)
  dsimp only at hns₃ hsb₃ ⊢
  generalize hH2 : h₁.push { cls := .type "list", dict := none, data := .seq ([] : List Value).toArray } = H2 at hns₃ hsb₃ ⊢
  have hC2 : H2.objs.size = h₁.objs.size + 1 := by rw [← hH2, Heap.size_push]
  have hDh1 : h₁.get? h₁.objs.size = none := get_size h₁
  have up2 : ∀ b o, h₁.get? b = some o → H2.get? b = some o := fun b o e => hH2 ▸ Heap.get?_push_of_some _ e
  have hCh2 : H2.get? H2.objs.size = none := get_size H2
  have up3 : ∀ b o, H2.get? b = some o → h₃.get? b = some o := fun b o e => hsb₃.extBut b o (Nat.ne_of_lt (Heap.lt_size e)) (Heap.get?_push_of_some _ e)
  have up : ∀ b o, s.heap.get? b = some o → h₃.get? b = some o := fun b o e => up3 b o (up2 b o (hk₁ b o e))
  have hD2 : H2.get? h₁.objs.size = some { cls := .type "list", data := .seq #[] } := by rw [← hH2]; exact Heap.get?_push_size _ rfl
  have hD3 := up3 _ _ hD2
  have none_of : ∀ a, (∀ b o, s.heap.get? b = some o → ∃ o', h₁.get? b = some o') → h₁.get? a = none → s.heap.get? a = none := fun a h e => by
    cases q : s.heap.get? a with
    | none => rfl
    | some o => obtain ⟨o', h'⟩ := h a o q; rw [h'] at e; cases e
  have hDs : s.heap.get? h₁.objs.size = none := none_of _ (fun b o e => ⟨o, hk₁ b o e⟩) hDh1
  have hCs : s.heap.get? H2.objs.size = none := by
    cases q : s.heap.get? H2.objs.size with
    | none => rfl
    | some o => have := up2 _ _ (hk₁ _ _ q); rw [hCh2] at this; cases this
  have hDC : h₁.objs.size ≠ H2.objs.size := by rw [hC2]; exact Nat.ne_of_lt (Nat.lt_succ_self _)
  obtain ⟨oI, hIh⟩ := hIo
  have hDI : h₁.objs.size ≠ I := fun z => by rw [z, hIh] at hDh1; cases hDh1
  have hIC : I ≠ H2.objs.size := fun z => by have := up2 _ _ hIh; rw [z, hCh2] at this; cases this
  have M3 := enter_comp (h' := h₃) (tk := tk₁) KK hk M hCs up (by simpa using hns₃)
  have hkd := kdIn_eq (scope := scope) (cl := closOf env.cells scope.names []) (C := H2.objs.size) hk M.frame.kind
  have notOwn : ∀ a, s.heap.get? a = none → a ≠ H2.objs.size → ¬ Own (compEnvC scope (closOf env.cells scope.names []) H2.objs.size env) a := fun a ha hne z => by
    rcases z with z | ⟨x, hx⟩
    · exact hne z
    · obtain ⟨o, e⟩ := M.frame.exists (.inr ⟨x, (clos_sub KK hk M.frame hx).1⟩ : Own env a)
      rw [ha] at e; cases e
  have st3 : St 0 h₃ := J.frame _ _ _ st₁ fun b hb o e => up3 b o (up2 b o e)
  have L3 : LooseOK B (compEnvC scope (closOf env.cells scope.names []) H2.objs.size env) [I] [I] σ { s with heap := h₃, toks := tk₁ } :=
    ⟨fun b hb => by simp at hb; subst hb; exact M.core.free hI, fun b hb => by simp at hb; subst hb; exact ⟨.of_none (M.core.free hI).1, notOwn _ hI hIC⟩⟩
  have C3 : AccOK B (compEnvC scope (closOf env.cells scope.names []) H2.objs.size env) h₁.objs.size σ h₃ [] 0 :=
    ⟨(M.core.free hDs).1, (M.core.free hDs).2, notOwn _ hDs hDC, #[], ⟨0, hD3⟩, .nil, by simp⟩
  have loop : codeAny (model prog w) A (.compLoop (.ListComp elt [⟨target, iter, ifs, 0⟩] scope pos) 0 (.ref I) (.ref h₁.objs.size) (compEnvC scope (closOf env.cells scope.names []) H2.objs.size env)) (RR (.ref h₁.objs.size) H2.objs.size) { s with heap := h₃, toks := tk₁ } := by
    refine comp_run (ρ := ρ) J g hkd ht hz (fun ρ₁ σ s Q y => htest _ ρ₁ σ s Q y hkd) (fun ρ₁ σ s Q y => helt _ ρ₁ σ s Q y hkd) hbind M3 (fun j hj => by simp [hj]) st3 L3 C3 hDI q ?_
    intro ρe σe l se Me hag Ce Te kl
    obtain ⟨m, hm, _⟩ := Me.frame.ns
    have T0 : Step (fun a => Own (compEnvC scope (closOf env.cells scope.names []) H2.objs.size env) a ∨ (a = I ∨ a = h₁.objs.size)) σ s σ { s with heap := h₃, toks := tk₁ } := Step.keeps up
    obtain ⟨Mo, To⟩ := leave_comp KK hk M hCs Me hag (T0.trans Te) fun a o ha e => by
      rcases ha with rfl | rfl
      · rw [hI] at e; cases e
      · rw [hDs] at e; cases e
    obtain ⟨vs, hp, hr, hvs⟩ := Ce.p
    have hoD : ¬ Own env h₁.objs.size := fun z => by obtain ⟨o, e⟩ := M.frame.exists z; rw [hDs] at e; cases e
    have hoC : ¬ Own env H2.objs.size := fun z => by obtain ⟨o, e⟩ := M.frame.exists z; rw [hCs] at e; cases e
    have Ma := Mo.adopt (o' := .list true l) (h' := se.heap) se.toks Ce.s Ce.b hoD (plain_notTup hp) (fun b x _ e => e) ⟨vs, ⟨hp.isList, fun _ => hp⟩, by omega, hr⟩
    have Ta : Step (Own env) σ s (σe.set h₁.objs.size (.list true l)) se := Step.seal (p := h₁.objs.size) ((To.more fun a z => .inl z).trans (Step.adopt (h' := se.heap) (tk := se.toks) fun b x _ e => e)) hDs
    exact hRR h₁.objs.size H2.objs.size m l σe se hCs hm Ce.s Ma Ta (by rw [set_ne (Ne.symm hDC)]; exact (Me.frame.own _ (.inl rfl)).1) (M.core.free hCs).2 hoC kl
  exact codeAny_compStart_list loop (J.self A 0 _ _ _ g.hd st3 loop)
end
end Mine

namespace Mine
open PySem PyProof.Rows

section
variable {prog : Program} {w : World} {B : Shared} {vars : List Str} {S : Spec} {n : Nat} {G : Gl} {kd : Str → Option NameKind} {env : Env} {ρ ρ' : Loc} {σ σ₁ σ' : Store} {s s₁ s' : Shared} {A : Around}

theorem ns_notTup {h : Heap} {C : Addr} {m : Str → Option Value} (hns : h.Ns C m) : ∀ o, h.get? C = some o → ¬ tupLike o := fun o e => by
  obtain ⟨o', es, ep, ho, hd, _⟩ := hns
  rw [ho] at e; cases e
  exact fun z => z.2.1 _ _ hd
/-- the block's names are let go -/
theorem comp_leave {C : Addr} {m : Str → Option Value} {h' : Heap} (M : Sim prog w B vars env ρ σ₁ s₁) (T : Step (Own env) σ s σ₁ s₁) (hC : s.heap.get? C = none) (hns : s₁.heap.Ns C m) (hσ : σ₁ C = none) (hB : B.heap.get? C = none) (hO : ¬ Own env C) (hs : Heap.SameBut C s₁.heap h') :
    Sim prog w B vars env ρ σ₁ { s₁ with heap := h' } ∧ Step (Own env) σ s σ₁ { s₁ with heap := h' } := by
  have hk : ∀ b o, ¬ (b = C) → s₁.heap.get? b = some o → h'.get? b = some o := fun b o hb e => hs.extBut b o hb e
  refine ⟨M.move (· = C) s₁.toks hk fun a ha => by subst ha; exact ⟨hσ, hB, hO, ns_notTup hns⟩, ?_⟩
  exact Step.seal (p := C) ((T.more fun a z => .inl z).trans (Step.move (tk := s₁.toks) fun b o hb e => hk b o (fun z => hb (.inr z)) e)) hC
theorem comp_names {scope : Scope} {tg : Tgt} (KK : CompOK vars kd scope tg) : ∀ x ∈ scope.names, x.2 = .local → scope.names.lookup x.1 = some .local := fun x hx hl => by
  obtain ⟨a, k⟩ := x
  have : k = .local := hl
  subst this
  exact lookup_of_mem' KK.nodup hx
theorem comp_clos {scope : Scope} {tg : Tgt} (KK : CompOK vars kd scope tg) (hk : env.kindOf = kd) (M : Sim prog w B vars env ρ σ s) : closureFor scope env = pure (closOf env.cells scope.names []) :=
  clos_eq fun y hy hf => M.frame.has y.1 (by rw [hk]; exact KK.free y hy hf)
/-- what a comprehension's clause asks -/
structure Clause (prog : Program) (w : World) (B : Shared) (vars : List Str) (n : Nat) (kd : Str → Option NameKind) (scope : Scope) (tg : Tgt) (ifs : List Expr) (elt : Expr) (cnd : Loc → V → Store → (Bool → Store → Prop) → Prop) (el : Loc → V → Store → Post → Prop) : Prop where
  test : ∀ (cenv : Env) A ρ ρ₁ σ s Q y, Good A n → cenv.kindOf = kdIn scope kd → bindT tg y ρ = some ρ₁ → Sim prog w B vars cenv ρ₁ σ s → cnd ρ y σ Q →
      wpAny (model prog w) A (forIn ifs true fun c r => if r = true then do let ok ← isTrue c cenv (eval c cenv); pure (ForInStep.yield ok) else pure (ForInStep.yield r)) (GotB prog w B vars cenv ρ₁ σ s Q) (fun _ _ => False) s
  elt : ∀ (cenv : Env) A ρ ρ₁ σ s Q y, Good A n → cenv.kindOf = kdIn scope kd → bindT tg y ρ = some ρ₁ → Sim prog w B vars cenv ρ₁ σ s → el ρ y σ Q → wpAny (model prog w) A (eval elt cenv) (Got prog w B vars cenv ρ₁ σ s Q) (fun _ _ => False) s
  bind : ∀ ρ y σ Q, cnd ρ y σ Q → ∃ ρ₁, bindT tg y ρ = some ρ₁
noncomputable def compQ (S : Spec) (it : X) (cnd : Loc → V → Store → (Bool → Store → Prop) → Prop) (el : Loc → V → Store → Post → Prop) (ρ : Loc) (σ : Store) (Q : Post) : Prop :=
  wpE S it ρ σ fun vi σ₁ => ∃ items ok, Src σ₁ vi items ok ∧ items.length ≤ 1000000 ∧ compW ok (cnd ρ) (el ρ) items [] σ₁ fun acc σ₂ => fresh σ₂ (.list true acc) Q
theorem comp_ev {elt target iter : Expr} {ifs : List Expr} {scope : Scope} {pos : Pos} {tg : Tgt} {a : X} {cnd : Loc → V → Store → (Bool → Store → Prop) → Prop} {el : Loc → V → Store → Post → Prop} {Q : Post}
    (KK : CompOK vars kd scope tg) (hset : notSet iter = true) (hi : SoundE prog w B vars S n kd iter a) (ht : SoundT prog w B vars (kdIn scope kd) target tg) (CL : Clause prog w B vars n kd scope tg ifs elt cnd el)
    (hk : env.kindOf = kd) (g : Good A n) (M : Sim prog w B vars env ρ σ s) (q : compQ S a cnd el ρ σ Q) :
    wpAny (model prog w) A (eval (.ListComp elt [⟨target, iter, ifs, 0⟩] scope pos) env) (Got prog w B vars env ρ σ s Q) (fun _ _ => False) s := by
  rw [eval_ListComp]
  refine wpAny_comprehension_free (use := none) rfl (folded_no hset) (comp_clos KK hk M) KK.kind (comp_names KK) (wpAny_mono (hi.ev env A ρ σ s _ hk g M q) (fun v s₁ h₁ => ?_) fun _ _ x => x)
  obtain ⟨x, σ₁, rv, M₁, T₁, items, ok, hsrc, hz, q₁⟩ := h₁
  refine comp_core KK g hk ht hz (fun cenv ρ₁ σ s Q y h1 => CL.test cenv A ρ ρ₁ σ s Q y g h1) (fun cenv ρ₁ σ s Q y h1 => CL.elt cenv A ρ ρ₁ σ s Q y g h1) (CL.bind ρ) M₁ rv hsrc q₁ ?_
  intro D C m l σe se hCs hns hDe Ma Ta hCn hCb hCo kl
  refine ⟨m, hns, fun h' hs' => ?_⟩
  obtain ⟨Mf, Tf⟩ := comp_leave Ma Ta hCs hns hCn hCb hCo hs'
  exact ⟨.ref D, _, by simp [VRel], Mf, T₁.trans Tf, kl D hDe⟩
theorem Clause.plain {scope : Scope} {tg : Tgt} {elt : Expr} {b : X} (he : SoundE prog w B vars S n (kdIn scope kd) elt b) :
    Clause prog w B vars n kd scope tg [] elt (fun ρ v σ Q => (∃ ρ', bindT tg v ρ = some ρ') ∧ Q true σ) (fun ρ v σ Q => ∃ ρ', bindT tg v ρ = some ρ' ∧ wpE S b ρ' σ Q) :=
  ⟨fun cenv A ρ ρ₁ σ s Q y _ _ _ M q => wpAny_tests_nil ⟨σ, M, .refl, q.2⟩,
   fun cenv A ρ ρ₁ σ s Q y g hk hb M q => by
    obtain ⟨ρ', h1, h2⟩ := q
    rw [hb] at h1; cases h1
    exact he.ev cenv A _ σ s Q hk g M h2,
   fun ρ y σ Q q => q.1⟩
theorem Clause.test1 {scope : Scope} {tg : Tgt} {elt c : Expr} {b x : X} (hc : SoundE prog w B vars S n (kdIn scope kd) c x) (he : SoundE prog w B vars S n (kdIn scope kd) elt b) :
    Clause prog w B vars n kd scope tg [c] elt (fun ρ v σ Q => ∃ ρ', bindT tg v ρ = some ρ' ∧ wpE S x ρ' σ (asBool Q)) (fun ρ v σ Q => ∃ ρ', bindT tg v ρ = some ρ' ∧ wpE S b ρ' σ Q) :=
  ⟨fun cenv A ρ ρ₁ σ s Q y g hk hb M q => by
    obtain ⟨ρ', h1, h2⟩ := q
    rw [hb] at h1; cases h1
    exact wpAny_tests_one (hc.tr cenv A _ σ s Q hk g M h2),
   fun cenv A ρ ρ₁ σ s Q y g hk hb M q => by
    obtain ⟨ρ', h1, h2⟩ := q
    rw [hb] at h1; cases h1
    exact he.ev cenv A _ σ s Q hk g M h2,
   fun ρ y σ Q ⟨ρ', q, _⟩ => ⟨ρ', q⟩⟩
theorem SoundE.comp {elt target iter : Expr} {scope : Scope} {pos : Pos} {tg : Tgt} {a b : X} (KK : CompOK vars kd scope tg) (hi : SoundE prog w B vars S n kd iter a) (ht : SoundT prog w B vars (kdIn scope kd) target tg) (he : SoundE prog w B vars S n (kdIn scope kd) elt b) (hset : notSet iter = true := by rfl) :
    SoundE prog w B vars S n kd (.ListComp elt [⟨target, iter, [], 0⟩] scope pos) (.comp tg a b) :=
  SoundE.of (fun _ => rfl) fun env A ρ σ s Q hk g M q => comp_ev KK hset hi ht (Clause.plain he) hk g M q
theorem SoundE.compIf {elt target iter c : Expr} {scope : Scope} {pos : Pos} {tg : Tgt} {a b x : X} (KK : CompOK vars kd scope tg) (hi : SoundE prog w B vars S n kd iter a) (ht : SoundT prog w B vars (kdIn scope kd) target tg) (hc : SoundE prog w B vars S n (kdIn scope kd) c x) (he : SoundE prog w B vars S n (kdIn scope kd) elt b) (hset : notSet iter = true := by rfl) :
    SoundE prog w B vars S n kd (.ListComp elt [⟨target, iter, [c], 0⟩] scope pos) (.compIf tg a x b) :=
  SoundE.of (fun _ => rfl) fun env A ρ σ s Q hk g M q => comp_ev KK hset hi ht (Clause.test1 hc he) hk g M q
/-- whether a comprehension's value is stored ahead of its names -/
noncomputable def swapB (kd : Str → Option NameKind) (scope : Scope) (t : Str) (p pos : Pos) : Bool :=
  kd t == some .local && p.line == pos.line && !(scope.names.any fun (n, k) => n == t && (k == .local || k == .cell))
theorem swaps_comp {elt : Expr} {gens : List Comprehension} {scope : Scope} {pos p : Pos} {t : Str} {line : Nat} (hk : env.kindOf = kd) (hf : env.scope.kind = .function) : swapsWith (.ListComp elt gens scope pos) (some (.Name t p)) line env = pure (swapB kd scope t p pos) := by
  subst hk
  have : env.blockKind = .function := by unfold Env.blockKind; rw [hf]; rfl
  unfold swapsWith
  simp only
  rw [this]
  simp only [swapB]
  rfl
theorem asg_swap {x : Str} {i : Nat} {p pos : Pos} {elt target iter : Expr} {ifs : List Expr} {scope : Scope} {cpos : Pos} {tg : Tgt} {a : X} {cnd : Loc → V → Store → (Bool → Store → Prop) → Prop} {el : Loc → V → Store → Post → Prop} {Q : FPost}
    (hn : vars.Nodup) (hx : vars[i]? = some x) (hkx : kd x = some .local ∨ kd x = some .cell) (hsw : swapB kd scope x p cpos = true)
    (KK : CompOK vars kd scope tg) (hset : notSet iter = true) (hi : SoundE prog w B vars S n kd iter a) (ht : SoundT prog w B vars (kdIn scope kd) target tg) (CL : Clause prog w B vars n kd scope tg ifs elt cnd el)
    (hk : env.kindOf = kd) (g : Good A n) (M : Sim prog w B vars env ρ σ s) (q : compQ S a cnd el ρ σ fun v σ₁ => ∃ ρ', bindT (.one i) v ρ = some ρ' ∧ Q .next ρ' σ₁) :
    wpAny (model prog w) A (exec (.Assign [.Name x p] (.ListComp elt [⟨target, iter, ifs, 0⟩] scope cpos) pos) env) (GotF prog w B vars env σ s Q) (fun _ _ => False) s := by
  rw [exec_Assign_Name_used _ _ _ _ (by rw [swaps_comp hk M.frame.kind, hsw])]
  refine wpAny_bind (wpAny_standAt (wpAny_bind ?_))
  show wpAny _ A (do let _ ← comprehension (.ListComp elt [⟨target, iter, ifs, 0⟩] scope cpos) scope env _ (newList []) false (eval iter env) (some (assign (.Name x p) env))) _ _ s
  refine wpAny_bind (wpAny_mono (wpAny_comprehension_free (use := some (assign (.Name x p) env)) (Q := fun _ s' => GotF prog w B vars env σ s Q .next s') rfl (folded_no hset) (comp_clos KK hk M) KK.kind (comp_names KK)
    (wpAny_mono (hi.ev env A ρ σ s _ hk g M q) (fun v s₁ h₁ => ?_) fun _ _ x => x)) (fun _ s' hq => wpAny_pure (wpAny_pure hq)) fun _ _ e => e)
  obtain ⟨y, σ₁, rv, M₁, T₁, items, ok, hsrc, hz, q₁⟩ := h₁
  refine comp_core KK g hk ht hz (fun cenv ρ₁ σ s Q y h1 => CL.test cenv A ρ ρ₁ σ s Q y g h1) (fun cenv ρ₁ σ s Q y h1 => CL.elt cenv A ρ ρ₁ σ s Q y g h1) (CL.bind ρ) M₁ rv hsrc q₁ ?_
  intro D C m l σe se hCs hns hDe Ma Ta hCn hCb hCo kl
  show wpAny _ A (assign (.Name x p) env (.ref D)) _ _ _
  obtain ⟨ρ', hρ, q₂⟩ := kl D hDe
  simp only [bindT] at hρ; cases hρ
  refine wpAny_assign_Name (store_sound hn Ma hx (by rw [hk]; exact hkx) (y := .ref D) (by simp [VRel]) fun h' tk Mb hkb => ?_)
  obtain ⟨o, es, ep, ho, r⟩ := hns
  refine ⟨m, ⟨o, es, ep, hkb _ _ hCo ho, r⟩, fun h'' hs'' => ?_⟩
  obtain ⟨Mf, Tf⟩ := comp_leave Mb (Ta.trans (Step.move hkb)) hCs ⟨o, es, ep, hkb _ _ hCo ho, r⟩ hCn hCb hCo hs''
  exact ⟨.next, _, _, rfl, Mf, T₁.trans Tf, q₂⟩
theorem asg_noswap {x : Str} {i : Nat} {e : Expr} {a : X} {p pos : Pos} {Q : FPost} (hn : vars.Nodup) (hx : vars[i]? = some x) (hkx : kd x = some .local ∨ kd x = some .cell) (h : SoundE prog w B vars S n kd e a) (hk : env.kindOf = kd) (g : Good A n) (M : Sim prog w B vars env ρ σ s)
    (hs : swapsWith e (some (.Name x p)) pos.line env = pure false) (q : wpS S (.asg (.one i) a) ρ σ Q) :
    wpAny (model prog w) A (exec (.Assign [.Name x p] e pos) env) (GotF prog w B vars env σ s Q) (fun _ _ => False) s := by
  dsimp only [ws_asg] at q
  refine wpAny_Assign_Name (wpAny_mono (h.ev env A ρ σ s _ hk g M q) (fun v s₁ h₁ => ?_) fun _ _ x => x) hs
  obtain ⟨y, σ₁, rv, M₁, T₁, ρ', hρ, q₁⟩ := h₁
  cases (show some (ρ.set i y) = some ρ' from hρ)
  refine store_sound hn M₁ hx (by rw [hk]; exact hkx) rv fun h' tk M' hk' => ?_
  exact (GotF.stored M' hk' q₁).trans T₁
theorem SoundS.asgComp {x : Str} {i : Nat} {p pos : Pos} {elt target iter : Expr} {scope : Scope} {cpos : Pos} {tg : Tgt} {a b : X} (hn : vars.Nodup) (hx : vars[i]? = some x) (hkx : kd x = some .local ∨ kd x = some .cell)
    (KK : CompOK vars kd scope tg) (hi : SoundE prog w B vars S n kd iter a) (ht : SoundT prog w B vars (kdIn scope kd) target tg) (he : SoundE prog w B vars S n (kdIn scope kd) elt b) (hset : notSet iter = true := by rfl) :
    SoundS prog w B vars S n kd (.Assign [.Name x p] (.ListComp elt [⟨target, iter, [], 0⟩] scope cpos) pos) (.asg (.one i) (.comp tg a b)) := fun env A ρ σ s Q hk g M q => by
  cases hsw : swapB kd scope x p cpos with
  | true => exact asg_swap hn hx hkx hsw KK hset hi ht (Clause.plain he) hk g M q
  | false => exact asg_noswap hn hx hkx (SoundE.comp KK hi ht he hset) hk g M (by rw [swaps_comp hk M.frame.kind, hsw]) q
theorem SoundS.asgCompIf {x : Str} {i : Nat} {p pos : Pos} {elt target iter c : Expr} {scope : Scope} {cpos : Pos} {tg : Tgt} {a b y : X} (hn : vars.Nodup) (hx : vars[i]? = some x) (hkx : kd x = some .local ∨ kd x = some .cell)
    (KK : CompOK vars kd scope tg) (hi : SoundE prog w B vars S n kd iter a) (ht : SoundT prog w B vars (kdIn scope kd) target tg) (hc : SoundE prog w B vars S n (kdIn scope kd) c y) (he : SoundE prog w B vars S n (kdIn scope kd) elt b) (hset : notSet iter = true := by rfl) :
    SoundS prog w B vars S n kd (.Assign [.Name x p] (.ListComp elt [⟨target, iter, [c], 0⟩] scope cpos) pos) (.asg (.one i) (.compIf tg a y b)) := fun env A ρ σ s Q hk g M q => by
  cases hsw : swapB kd scope x p cpos with
  | true => exact asg_swap hn hx hkx hsw KK hset hi ht (Clause.test1 hc he) hk g M q
  | false => exact asg_noswap hn hx hkx (SoundE.compIf KK hi ht hc he hset) hk g M (by rw [swaps_comp hk M.frame.kind, hsw]) q
theorem SoundS.stop {st : Stmt} : SoundS prog w B vars S n kd st .stop := fun env A ρ σ s Q _ _ _ q => False.elim q
end
end Mine

namespace Mine
open PySem PyProof.Rows

/-- the functions: how many parameters, and the body -/
abbrev Tab := Nat → Option (Nat × List Mine.S)
noncomputable def specAt (P : Tab) : Nat → Spec
  | 0 => fun _ _ _ _ => False
  | n + 1 => fun f vs σ Q => ∃ np xs, P f = some (np, xs) ∧ vs.length = np ∧ wpSs (specAt P n) xs (fun i => vs[i]?) σ fun fl _ σ' => Q (match fl with | .ret v => v | .next => .none) σ'
theorem bindL_other {kind : Str → Option NameKind} {x : Str} : ∀ {r : List (Str × Value)} {m : Str → Option Value}, x ∉ r.map (·.1) → bindL kind r m x = m x
  | [], _, _ => rfl
  | (y, v) :: r, m, h => by
    simp only [List.map_cons, List.mem_cons, not_or] at h
    unfold bindL
    rw [bindL_other h.2]
    split
    · exact if_neg h.1
    · rfl
theorem bindC_other {kind : Str → Option NameKind} {x : Str} : ∀ {r : List (Str × Value)} {m : Str → Option Value}, x ∉ r.map (·.1) → bindC kind r m x = m x
  | [], _, _ => rfl
  | (y, v) :: r, m, h => by
    simp only [List.map_cons, List.mem_cons, not_or] at h
    unfold bindC
    rw [bindC_other h.2]
    split
    · rfl
    · exact if_neg h.1
theorem zip_notin {x : Str} : ∀ {ns : List Str} {vs : List Value}, x ∉ ns → x ∉ (ns.zip vs).map (·.1)
  | [], _, _ => by simp
  | _ :: _, [], _ => by simp
  | n :: ns, v :: vs, h => by
    simp only [List.mem_cons, not_or] at h
    simp only [List.zip_cons_cons, List.map_cons, List.mem_cons, not_or]
    exact ⟨h.1, zip_notin h.2⟩
theorem bindL_get {kind : Str → Option NameKind} {x : Str} {u : Value} (hk : kind x = some .local) : ∀ {ns : List Str} {vs : List Value} {m : Str → Option Value} {i : Nat}, ns.Nodup → ns[i]? = some x → vs[i]? = some u → bindL kind (ns.zip vs) m x = some u
  | [], _, _, i, _, h, _ => by simp at h
  | _ :: _, [], _, i, _, _, h => by simp at h
  | n :: ns, v :: vs, m, 0, hn, h, h' => by
    simp at h h'; subst h; subst h'
    show bindL kind (ns.zip vs) _ n = _
    rw [bindL_other (zip_notin (List.nodup_cons.mp hn).1), if_pos hk]; exact if_pos rfl
  | n :: ns, v :: vs, m, i + 1, hn, h, h' => by
    simp at h h'
    show bindL kind (ns.zip vs) _ x = some u
    exact bindL_get hk (List.nodup_cons.mp hn).2 h h'
theorem bindC_get {kind : Str → Option NameKind} {x : Str} {u : Value} (hk : ¬ kind x = some .local) : ∀ {ns : List Str} {vs : List Value} {m : Str → Option Value} {i : Nat}, ns.Nodup → ns[i]? = some x → vs[i]? = some u → bindC kind (ns.zip vs) m x = some u
  | [], _, _, i, _, h, _ => by simp at h
  | _ :: _, [], _, i, _, _, h => by simp at h
  | n :: ns, v :: vs, m, 0, hn, h, h' => by
    simp at h h'; subst h; subst h'
    show bindC kind (ns.zip vs) _ n = _
    rw [bindC_other (zip_notin (List.nodup_cons.mp hn).1), if_neg hk]; exact if_pos rfl
  | n :: ns, v :: vs, m, i + 1, hn, h, h' => by
    simp at h h'
    show bindC kind (ns.zip vs) _ x = some u
    exact bindC_get hk (List.nodup_cons.mp hn).2 h h'
/-- a function of the program, as it stands at the start -/
structure FnAt (prog : Program) (w : World) (B : Shared) (G : Gl) (a : Addr) (np : Nat) (xs : List Mine.S) (vars : List Str) (o : Obj) (fd : FuncData) (body : List Stmt) : Prop where
  at_ : B.heap.get? a = some o
  data : o.data = .func fd
  code : B.heap.CodeRec fd.code fd.qualname
  bd : fd.body = .stmts body
  clos : fd.closure = []
  co : fd.scope.isCoroutine = false
  gen : fd.scope.isGenerator = false
  kind : fd.scope.kind = .function
  glob : fd.globals = mainGlobals
  bltn : fd.builtins = builtinsNs
  nd : vars.Nodup
  bind : ∀ vals : List Value, vals.length = np → bindArgs fd ⟨vals, []⟩ = pure ((vars.take np).zip vals)
  kinds : ∀ x ∈ vars.take np, fd.scope.names.lookup x = some .local ∨ fd.scope.names.lookup x = some .cell
  nofree : ∀ y ∈ fd.scope.names, y.2 ≠ .free
  sound : ∀ S n, SpecOK prog w B S n G → SoundSs prog w B vars S n (fun x => fd.scope.names.lookup x) body xs
section
variable {prog : Program} {w : World} {B : Shared} {G : Gl} {σ : Store} {s : Shared} {A : Around}

theorem fn_call {mg mb} (T : TopOK B G mg mb) {a : Addr} {np : Nat} {xs : List Mine.S} {vars : List Str} {o : Obj} {fd : FuncData} {body : List Stmt} (F : FnAt prog w B G a np xs vars o fd body) {S : Spec} {n : Nat} (hS : SpecOK prog w B S n G)
    {ys : List V} {vs : List Value} {Q : Post} (g : Good A (n + 1)) (C : Core prog w B σ s) (rs : VRels s.heap ys vs) (hl : ys.length = np)
    (q : wpSs S xs (fun i => ys[i]?) σ fun fl _ σ' => Q (match fl with | .ret v => v | .next => .none) σ') :
    codeAny (model prog w) A (.call (.ref a) ⟨vs, []⟩) (CallPost prog w B σ s Q) s := by
  have hvl : vs.length = np := by rw [rs.length, hl]
  have fstm : ∀ p ∈ (vars.take np).zip vs, p.1 ∈ vars.take np := fun p hp => (List.of_mem_zip (a := p.1) (b := p.2) hp).1
  refine codeAny_call_cells (by have := g.dep; omega) (C.base _ _ F.at_) F.data (T.lim.keeps C.base) (F.code.keeps C.base) F.bd (F.bind vs hvl) F.clos (fun p hp => ?_) (fun s₁ x => ?_) F.co F.gen F.kind
  · rcases F.kinds p.1 (fstm p hp) with h | h
    · exact .inl h
    · exact .inr ⟨h, PySem.W.cellsFrom_some _ _ _ (.inl h)⟩
  · generalize hen : callEnvC fd s.heap.objs.size a = env at x ⊢
    have hL : env.locals = s.heap.objs.size := by rw [← hen]; rfl
    have hkd : env.kindOf = fun y => fd.scope.names.lookup y := by rw [← hen]; rfl
    obtain ⟨h₁, tk₁, rfl⟩ := x.toInCall.same
    have hkeep : ∀ b o, s.heap.get? b = some o → h₁.get? b = some o := x.toInCall.keep
    have own_new : ∀ c, Own env c → s.heap.get? c = none := fun c hc => by
      refine Heap.get?_none_of_le ?_
      rcases hc with rfl | ⟨y, hy⟩
      · rw [hL]; exact Nat.le_refl _
      · have := x.above y c (mem_of_lookup hy)
        rw [hL] at this; exact Nat.le_of_lt this
    have C₁ : Core prog w B σ { s with heap := h₁, toks := tk₁ } := C.keeps tk₁ hkeep
    have rs₁ : VRels h₁ ys vs := rs.keep fun c o e _ => hkeep c o e
    have par : ∀ (i : Nat) y v, vars[i]? = some y → ys[i]? = some v → ∃ u, vs[i]? = some u ∧ VRel h₁ v u ∧ (vars.take np)[i]? = some y := fun i y v hy hv => by
      obtain ⟨u, hu, ru⟩ := rs₁.get hv
      refine ⟨u, hu, ru, ?_⟩
      have : i < np := by rw [← hl]; exact (List.getElem?_eq_some_iff.mp hv).1
      rw [List.getElem?_take_of_lt this]; exact hy
    have ndt : (vars.take np).Nodup := F.nd.sublist (List.take_sublist _ _)
    have M : Sim prog w B vars env (fun i => ys[i]?) σ { s with heap := h₁, toks := tk₁ } := by
      refine ⟨C₁, ⟨⟨_, x.toInCall.ns, fun i y v hy hv hk => ?_⟩, ns_notTup x.toInCall.ns, fun i y v hy hv hk => ?_, fun y c hc => ?_, fun y z c hy hz => ?_, fun y hy => ?_, fun c hc => C.free (own_new c hc), ?_, ?_, ?_⟩⟩
      · obtain ⟨u, hu, ru, ht⟩ := par i y v hy hv
        exact ⟨u, bindL_get hk ndt ht hu, ru⟩
      · obtain ⟨u, hu, ru, ht⟩ := par i y v hy hv
        have hk' : env.kindOf y = some .cell := by
          rcases hk with hk | hk
          · exact hk
          · rw [hkd] at hk; exact absurd rfl (F.nofree _ (mem_of_lookup hk))
        obtain ⟨c, hc⟩ := Option.isSome_iff_exists.mp (PySem.W.cellsFrom_some (x := y) fd.scope.names (s.heap.objs.size + 1) [] (.inl (by rw [hkd] at hk'; exact hk')))
        have hc' : env.cells.lookup y = some c := by rw [← hen]; exact hc
        refine ⟨c, u, hc', ?_, ru⟩
        have := x.cell y c hc'
        rw [bindC_get (by rw [hk']; simp) ndt ht hu] at this
        exact this
      · obtain ⟨o, h1, h2⟩ := x.cell y c hc
        refine ⟨⟨_, o, h1, h2⟩, Nat.ne_of_gt (x.above y c (mem_of_lookup hc)), fun o' e => ?_⟩
        have h1' : h₁.get? c = some o := h1
        have e' : h₁.get? c = some o' := e
        rw [h1'] at e'; cases e'
        exact fun z => z.2.2 _ h2
      · exact name_of_addr x.apart (mem_of_lookup hy) (mem_of_lookup hz)
      · have hk' : fd.scope.names.lookup y = some .cell := by
          rw [hkd] at hy
          rcases hy with hk | hk
          · exact hk
          · exact absurd rfl (F.nofree _ (mem_of_lookup hk))
        obtain ⟨c, hc⟩ := Option.isSome_iff_exists.mp (PySem.W.cellsFrom_some (x := y) fd.scope.names (s.heap.objs.size + 1) [] (.inl hk'))
        exact ⟨c, by rw [← hen]; exact hc⟩
      · rw [← hen]; exact F.kind
      · rw [← hen]; exact F.glob
      · rw [← hen]; exact F.bltn
    refine wpAny_mono (F.sound S n hS env (A.deeper env) _ σ _ _ hkd (g.deeper env) M q) (fun f s₂ h₂ => ?_) fun _ _ h => False.elim h
    obtain ⟨fl, ρ', σ', fr, M₂, T₂, q₂⟩ := h₂
    have T₃ : Step (fun _ => False) σ s σ' s₂ := ((Step.keeps hkeep).trans T₂).less fun c o e hc => by rw [own_new c hc] at e; cases e
    cases fl with
    | next => simp only [FRel] at fr; subst fr; exact ⟨.none, .none, σ', rfl, by simp [VRel], M₂.core, T₃, q₂⟩
    | ret v => obtain ⟨u, rfl, ru⟩ := fr; exact ⟨u, v, σ', rfl, ru, M₂.core, T₃, q₂⟩
theorem spec_ok {mg mb} (T : TopOK B G mg mb) {P : Tab} (hf : ∀ x i a, G.fns.lookup x = some (i, a) → ∃ np xs vars o fd body, P i = some (np, xs) ∧ FnAt prog w B G a np xs vars o fd body) : ∀ n, SpecOK prog w B (specAt P n) n G
  | 0 => fun _ _ _ _ _ _ _ _ _ _ _ _ _ q => False.elim q
  | n + 1 => fun x i a hx ys vs σ s Q A g C rs q => by
    obtain ⟨np, xs, vars, o, fd, body, hp, F⟩ := hf x i a hx
    obtain ⟨np', xs', hp', hl, q⟩ := q
    rw [hp] at hp'; cases hp'
    exact fn_call T F (spec_ok T hf n) g C rs hl q
end
end Mine

namespace Mine
open PySem PyProof.Rows

section
variable {prog : Program} {w : World} {B : Shared} {vars : List Str} {S : Spec} {n : Nat} {G : Gl} {kd : Str → Option NameKind} {env : Env} {ρ ρ' : Loc} {σ σ₁ σ' : Store} {s s₁ s' : Shared} {A : Around}

theorem lastMarks_of {o p : CmpOp} {r t : Expr} (h : notSet t = true) : lastMarks [o, p] [r, t] = false := by
  show behindInMarks p t = false
  exact marks_of h
theorem SoundE.cmp2 {o p : COp} {l r t : Expr} {a b c : X} {pos : Pos} {mg mb} (T : TopOK B G mg mb) (ha : SoundE prog w B vars S n kd l a) (hb : SoundE prog w B vars S n kd r b) (hc : SoundE prog w B vars S n kd t c) (hs : notSet t = true := by rfl) :
    SoundE prog w B vars S n kd (.Compare l [o.real, p.real] [r, t] pos) (.cmp2 o p a b c) := by
  refine ⟨fun env A ρ σ s Q hk g M q => ?_, fun env A ρ σ s Q hk g M q => ?_⟩
  · dsimp only [we_var, we_cst, we_gl, we_bin, we_cmp, we_cmp2, we_and, we_or, we_not, we_sub, we_slc, we_rev, we_list, we_tup, we_dict0, we_dict1, we_comp, we_compIf, we_call, we_len, we_listOf, we_dictOf, we_tupleOf, we_isi, we_max2, we_minOf, we_sorted, we_rng1, we_rng2, we_append, we_insert0, we_pop, we_get1, we_get2] at q
    refine Compare_chain (wpAny_mono (ha.ev env A ρ σ s _ hk g M q) (fun va s₁ h₁ => ?_) fun _ _ x => x) (lastMarks_of hs)
    obtain ⟨x, σ₁, rv, M₁, T₁, q₁⟩ := h₁
    refine chain_link (wpAny_mono (hb.ev env A ρ σ₁ s₁ _ hk g M₁ q₁) (fun vb s₂ h₂ => ?_) fun _ _ x => x)
    obtain ⟨y, σ₂, rv₂, M₂, T₂, u, hu, q₂⟩ := h₂
    refine cmp_sound T g M₂.core (rv.step M₁ T₂) rv₂ hu fun tk => wpAny_truthy_bool ?_
    cases u with
    | false => exact (Got.tok (x := .bool false) M₂ rfl q₂).trans (T₁.trans T₂)
    | true =>
      refine chain_last (wpAny_mono (hc.ev env A ρ σ₂ _ _ hk g (M₂.toks tk) q₂) (fun vc s₃ h₃ => ?_) fun _ _ x => x)
      obtain ⟨z, σ₃, rv₃, M₃, T₃, u', hu', q₃⟩ := h₃
      refine cmp_sound T g M₃.core (VRel.step (s := { s₂ with toks := tk }) rv₂ (M₂.toks tk) T₃) rv₃ hu' fun tk' => ?_
      exact (Got.tok (x := .bool u') M₃ rfl q₃).trans ((T₁.trans T₂).trans (Step.toks.trans T₃))
  · dsimp only [we_var, we_cst, we_gl, we_bin, we_cmp, we_cmp2, we_and, we_or, we_not, we_sub, we_slc, we_rev, we_list, we_tup, we_dict0, we_dict1, we_comp, we_compIf, we_call, we_len, we_listOf, we_dictOf, we_tupleOf, we_isi, we_max2, we_minOf, we_sorted, we_rng1, we_rng2, we_append, we_insert0, we_pop, we_get1, we_get2] at q
    refine isTrue_chain (wpAny_mono (ha.ev env A ρ σ s _ hk g M q) (fun va s₁ h₁ => ?_) fun _ _ x => x) (lastMarks_of hs)
    obtain ⟨x, σ₁, rv, M₁, T₁, q₁⟩ := h₁
    refine test_link (wpAny_mono (hb.ev env A ρ σ₁ s₁ _ hk g M₁ q₁) (fun vb s₂ h₂ => ?_) fun _ _ x => x)
    obtain ⟨y, σ₂, rv₂, M₂, T₂, u, hu, q₂⟩ := h₂
    refine cmp_sound T g M₂.core (rv.step M₁ T₂) rv₂ hu fun tk => wpAny_truthy_bool ?_
    cases u with
    | false => exact ⟨σ₂, M₂.toks tk, (T₁.trans T₂).trans Step.toks, q₂⟩
    | true =>
      refine test_last (wpAny_mono (hc.ev env A ρ σ₂ _ _ hk g (M₂.toks tk) q₂) (fun vc s₃ h₃ => ?_) fun _ _ x => x)
      obtain ⟨z, σ₃, rv₃, M₃, T₃, u', hu', q₃⟩ := h₃
      refine cmp_sound T g M₃.core (VRel.step (s := { s₂ with toks := tk }) rv₂ (M₂.toks tk) T₃) rv₃ hu' fun tk' => wpAny_truthy_bool ?_
      exact ⟨σ₃, M₃.toks tk', ((T₁.trans T₂).trans (Step.toks.trans T₃)).trans Step.toks, q₃⟩
end
end Mine

namespace Mine
open PySem PyProof.Rows
section
variable {prog : Program} {w : World} {B : Shared} {vars : List Str} {S : Spec} {n : Nat} {G : Gl} {kd : Str → Option NameKind}

theorem foldl_min {w : Int} : ∀ {r : List Int} {i : Int}, (∀ x ∈ i :: r, w ≤ x) → w ∈ i :: r → r.foldl min i = w
  | [], i, _, h => by cases h with | head => rfl | tail _ h => cases h
  | a :: r, i, h, hm => by
    show r.foldl min (min i a) = w
    have hi := h i (.head _)
    have ha := h a (.tail _ (.head _))
    refine foldl_min (fun x hx => ?_) ?_
    · cases hx with
      | head => omega
      | tail _ hx => exact h x (.tail _ (.tail _ hx))
    · cases hm with
      | head => rw [Int.min_eq_left ha]; exact .head _
      | tail _ hm => cases hm with
        | head => rw [Int.min_eq_right hi]; exact .head _
        | tail _ hm => exact .tail _ hm
theorem ints_items {h : Heap} : ∀ {l : List V} {is : List Int} {vs : List Value}, intsOf l = some is → VRels h l vs → ∃ ys : List (Int × Tok), vs = (ys.map fun p => Value.int p.1 p.2) ∧ ys.map (·.1) = is
  | [], _, vs, e, r => by
    cases (e : some [] = _)
    exact ⟨[], (r : vs = []), rfl⟩
  | x :: l, is, vs, e, r => by
    cases x with
    | int i =>
      have e' : (intsOf l).map (i :: ·) = some is := e
      obtain ⟨v, r', hv, ra, rb⟩ := (r : ∃ v r', vs = v :: r' ∧ VRel h (.int i) v ∧ VRels h l r')
      obtain ⟨t, ht⟩ := (ra : ∃ t, v = .int i t)
      cases hl : intsOf l with
      | none => rw [hl] at e'; cases e'
      | some is' =>
        rw [hl] at e'; cases e'
        obtain ⟨ys, h1, h2⟩ := ints_items hl rb
        exact ⟨(i, t) :: ys, by rw [hv, ht, h1]; rfl, by rw [List.map_cons, h2]⟩
    | _ => cases (e : none = some is)
theorem SoundE.minOf {p pos : Pos} {e : Expr} {a : X} {mg mb} (T : TopOK B G mg mb) (hkx : kd "min" = some .globalImplicit) (h : SoundE prog w B vars S n kd e a) (hs : starred e = false := by rfl) : SoundE prog w B vars S n kd (.Call (.Name "min" p) [e] [] pos) (.minOf a) := by
  refine SoundE.call1 T (f := .builtin "min") (by decide +kernel) hkx hs h (.inl ⟨_, rfl⟩) (fun va σ₁ Q => ∃ p m l i r, va = .ref p ∧ σ₁ p = some (.list m l) ∧ l.length ≤ 1000000 ∧ intsOf l = some (i :: r) ∧ Q (.int (r.foldl min i)) σ₁) (fun _ _ _ q => q) fun env A ρ y v σ₁ s₁ Q g rv M q => ?_
  obtain ⟨q, m, l, i, r, rfl, hp, hz, hi, q⟩ := q
  cases (rv : v = .ref _)
  obtain ⟨vs, ⟨hpl, _⟩, z, rs⟩ := M.core.objs _ _ hp
  obtain ⟨ys, h1, h2⟩ := ints_items hi rs
  have hvs : vs = intItems ys.toArray := by
    apply Array.toList_inj.mp
    rw [h1]; simp [intItems]
  rw [hvs] at hpl
  have hsz : 0 < ys.toArray.size := by
    have := congrArg List.length h2
    rw [List.length_map] at this
    show 0 < ys.length
    rw [this]; exact Nat.zero_lt_succ _
  refine min_intList g.hd hpl hsz fun v h' tk hv hk => ?_
  obtain ⟨t, rfl⟩ := intItems_at hv
  obtain ⟨k1, k2⟩ := argBest_lt (numAt ys.toArray) (ys.toArray.size - 1)
  refine Got.grown (x := .int (r.foldl min i)) M hk ?_ q
  refine ⟨t, ?_⟩
  congr 1
  have hlen : ys.length = (i :: r).length := by rw [← h2, List.length_map]
  have key : ∀ j, numAt ys.toArray j = (i :: r).getD j 0 := fun j => by rw [numAt_eq, ← h2]
  refine (foldl_min (fun x hx => ?_) ?_).symm
  · obtain ⟨j, hj, e⟩ := List.getElem_of_mem hx
    have := k2 j (by show j ≤ ys.length - 1; omega)
    rw [key j, List.getD_eq_getElem?_getD, List.getElem?_eq_getElem hj] at this
    rw [← e]; exact this
  · rw [key, List.getD_eq_getElem?_getD]
    have : argBest (fun i j => decide (numAt ys.toArray i < numAt ys.toArray j)) (ys.toArray.size - 1) < (i :: r).length := by
      have : ys.toArray.size = ys.length := rfl
      omega
    rw [List.getElem?_eq_getElem this]
    exact List.getElem_mem _
theorem SoundE.get2 {o e e' : Expr} {a b c : X} {apos pos : Pos} {mg mb} (T : TopOK B G mg mb) (ho : SoundE prog w B vars S n kd o a) (he : SoundE prog w B vars S n kd e b) (he' : SoundE prog w B vars S n kd e' c) (hb : plainBase o = true := by rfl) (hs : starred e = false := by rfl) (hs' : starred e' = false := by rfl) (hl : (apos.endLine == pos.line) = true := by rfl) :
    SoundE prog w B vars S n kd (.Call (.Attribute o "get" apos) [e, e'] [] pos) (.get2 a b c) := by
  refine SoundE.of (fun _ => rfl) fun env A ρ σ s Q hk g M q => ?_
  have q : wpE S a ρ σ fun vo σ₁ => ∃ p m es, vo = .ref p ∧ σ₁ p = some (.ds m es) ∧ wpE S b ρ σ₁ fun vk σ₂ => wpE S c ρ σ₂ fun vd σ₃ => ∃ m' es' x, vk = .str x ∧ σ₃ p = some (.ds m' es') ∧ Q ((look es' x).getD vd) σ₃ := q
  refine wpAny_Call_method (base_of hb) (few_of (by simp [hs, hs']) (by simp)) hl F.plainAttrs_dict F.slot_dict_get F.type_dict_get (wpAny_mono (ho.ev env A ρ σ s _ hk g M q) (fun ov s₁ h₁ => ?_) fun _ _ x => x)
  obtain ⟨x, σ₁, rv, M₁, T₁, p, m, l₀, rfl, hp, q₁⟩ := h₁
  cases (rv : ov = .ref _)
  obtain ⟨kvs₀, hd₀, _, _⟩ := M₁.core.objs _ _ hp
  refine ⟨hd₀.typeIs, hd₀.mapOf.noDict, ?_⟩
  rw [backTo_cons hs, backTo_cons hs']
  refine wpAny_dict_get2 (knd := PySem.strKind prog w) (M₁.core.notMods T hp rfl) (wpAny_mono (he.ev env A ρ σ₁ s₁ _ hk g M₁ q₁) (fun v s₂ h₂ => ?_) fun _ _ x => x)
  obtain ⟨y, σ₂, rv₂, M₂, T₂, q₂⟩ := h₂
  refine wpAny_mono (he'.ev env A ρ σ₂ s₂ _ hk g M₂ q₂) (fun u s₃ h₃ => ?_) fun _ _ x => x
  obtain ⟨z, σ₃, rv₃, M₃, T₃, m', es', x, rfl, hp', q₃⟩ := h₃
  obtain ⟨t, rfl⟩ := (rv₂ : ∃ t, v = .str x t)
  obtain ⟨kvs, hd, hkk, hv⟩ := M₃.core.objs _ _ hp'
  refine ⟨x, _, by simp [PySem.strKind, Value.isStrOf], hd.mapOf, ?_⟩
  rcases look_valueAt hkk hv x with ⟨h1, h2⟩ | ⟨x', v', h1, h2, h3⟩
  · rw [h2]; rw [h1] at q₃
    exact (Got.tok (x := z) M₃ rv₃ q₃).trans ((T₁.trans T₂).trans T₃)
  · rw [h2]; rw [h1] at q₃
    exact (Got.tok (x := x') M₃ h3 q₃).trans ((T₁.trans T₂).trans T₃)
end
end Mine

namespace Mine
open PySem PyProof.Rows

section
variable {prog : Program} {w : World} {B : Shared} {vars : List Str} {S : Spec} {n : Nat} {G : Gl} {kd : Str → Option NameKind} {env : Env} {ρ ρ' : Loc} {σ σ₁ σ' : Store} {s s₁ s' : Shared} {A : Around}

theorem get_size1 (h : Heap) : h.get? (h.objs.size + 1) = none := by
  cases e : h.get? (h.objs.size + 1) with
  | none => rfl
  | some o => exact absurd (Heap.lt_size e) (Nat.not_lt_of_le (Nat.le_succ _))
noncomputable def enumItems (l : List V) : List V := l.zipIdx.map fun x => .tup [.int x.2, x.1]
theorem enum_get {l : List V} {k : Nat} : (enumItems l)[k]? = l[k]?.map fun x => .tup [.int k, x] := by
  unfold enumItems
  rw [List.getElem?_map, List.getElem?_zipIdx]
  cases l[k]? with
  | none => rfl
  | some x => show some (V.tup [.int ((0 + k : Nat) : Int), x]) = _; rw [Nat.zero_add]; rfl
theorem enum_len {l : List V} : (enumItems l).length = l.length := by unfold enumItems; rw [List.length_map, List.length_zipIdx]
theorem enum_loose {h : Heap} {e it p : Addr} {k : Nat} {i : Int} {b : Addr} {o : Obj} (he : (∃ old, IsEnum h e it i old) ∨ ∃ x T, IsEnumOut h e it i x T) (hit : h.IsListIter it p k) (hb : b ∈ [e, it]) (ho : h.get? b = some o) : ¬ tupLike o := by
  cases hb with
  | head =>
    rcases he with ⟨old, he⟩ | ⟨x, T, he⟩
    · rw [he] at ho; cases ho; unfold tupLike; simp
    · rw [he] at ho; cases ho; unfold tupLike; simp
  | tail _ hb =>
    cases hb with
    | head =>
      obtain ⟨o', e', hc, _⟩ := hit
      rw [e'] at ho; cases ho
      unfold tupLike; simp [hc]
    | tail _ h => cases h
theorem enum_run {e it p : Addr} {l : List V} {es : List Expr} {tk0 : Nat} {tp : Pos} {tg : Tgt} {body : List Stmt} {xs : List Mine.S} {Q : FPost} (hei : e ≠ it) (g : Good A n) (hk : env.kindOf = kd)
    (ht : SoundT prog w B vars kd (.Tuple es tk0 tp) tg) (hb : SoundSs prog w B vars S n kd body xs) (M : Sim prog w B vars env ρ σ s) (st : (∃ old, IsEnum s.heap e it ((0 : Nat) : Int) old) ∧ s.heap.IsListIter it p 0) (L : LooseOK B env [e, it] [e, it] σ s)
    (q : forW (fun σ' => ∃ m', σ' p = some (.list m' l)) (fun v ρ σ Q => ∃ ρ', bindT tg v ρ = some ρ' ∧ wpSs S xs ρ' σ Q) (enumItems l) ρ σ Q) :
    codeAny (model prog w) A (.forLoop (.Tuple es tk0 tp) (.ref e) body [] env) (fun r s' => ∃ f fl ρ' σ', r = .ok f ∧ FRel s'.heap fl f ∧ Sim prog w B vars env ρ' σ' s' ∧ Step (fun a => Own env a ∨ a ∈ [e, it]) σ s σ' s' ∧ Q fl ρ' σ') s := by
  have moved : ∀ {ρ : Loc} {σ : Store} {s : Shared} {h' : Heap} (tk : Nat) (k : Nat) (i : Int), LooseOK B env [e, it] [e, it] σ s → Sim prog w B vars env ρ σ s → ((∃ old, IsEnum s.heap e it i old) ∨ ∃ x T, IsEnumOut s.heap e it i x T) → s.heap.IsListIter it p k →
      (∀ b o, b ∉ [e, it] → s.heap.get? b = some o → h'.get? b = some o) → Sim prog w B vars env ρ σ { s with heap := h', toks := tk } := fun tk k i L M he hit hkeep =>
    M.move (· ∈ [e, it]) tk hkeep fun a ha => ⟨(L.w a ha).1, (L.w a ha).2, (L.f a ha).2, fun o ho => enum_loose he hit ha ho⟩
  have notin : ∀ {b : Addr}, b ≠ e → b ≠ it → b ∉ [e, it] := fun h1 h2 hm => by
    cases hm with
    | head => exact h1 rfl
    | tail _ hm => cases hm with
      | head => exact h2 rfl
      | tail _ h => cases h
  have outin : ∀ {b : Addr}, b ∉ [e, it] → b ≠ e ∧ b ≠ it := fun h => ⟨fun z => h (z ▸ .head _), fun z => h (z ▸ .tail _ (.head _))⟩
  refine forLoop_own (fun m s' => ∃ k ρ' σ', m = (enumItems l).length + 1 - k ∧ k ≤ (enumItems l).length ∧ Sim prog w B vars env ρ' σ' s' ∧ ((∃ old, IsEnum s'.heap e it (k : Int) old) ∧ s'.heap.IsListIter it p k) ∧ LooseOK B env [e, it] [e, it] σ' s' ∧ Step (fun a => Own env a ∨ a ∈ [e, it]) σ s σ' s' ∧
    forW (fun σ' => ∃ m', σ' p = some (.list m' l)) (fun v ρ σ Q => ∃ ρ', bindT tg v ρ = some ρ' ∧ wpSs S xs ρ' σ Q) ((enumItems l).drop k) ρ' σ' Q) ?_ ((enumItems l).length + 1) ⟨0, ρ, σ, rfl, Nat.zero_le _, M, st, L, .refl, by rw [List.drop_zero]; exact q⟩
  rintro m s₀ ⟨k, ρ₀, σ₀, rfl, hkl, M₀, ⟨⟨old, he₀⟩, hit₀⟩, L₀, T₀, q₀⟩
  by_cases hlt : k < (enumItems l).length
  · rw [List.drop_eq_getElem_cons hlt] at q₀
    have hlk : k < l.length := by rw [enum_len] at hlt; exact hlt
    have hitem : (enumItems l)[k] = .tup [.int k, l[k]] := by
      have := enum_get (l := l) (k := k)
      rw [List.getElem?_eq_getElem hlt, List.getElem?_eq_getElem hlk] at this
      exact Option.some.inj this
    rw [hitem] at q₀
    obtain ⟨⟨m', hm⟩, ρ₁, hρ, q₁⟩ := q₀
    obtain ⟨vs, ⟨hl, _⟩, _, rs⟩ := M₀.core.objs _ _ hm
    obtain ⟨v, hv, rv⟩ := rs.get (List.getElem?_eq_getElem hlk)
    refine wpAny_pyNext_enum_item he₀ hit₀ hl (x := v) (by simpa using hv) hei fun h₁ ho₁ hit₁ hT hsz hk₁ => ?_
    have hk₁' : ∀ b o, b ∉ [e, it] → s₀.heap.get? b = some o → h₁.get? b = some o := fun b o hb x => hk₁ b o (outin hb).1 (outin hb).2 x
    have M₁ := moved (h' := h₁) (s₀.toks + 1) k k L₀ M₀ (.inl ⟨old, he₀⟩) hit₀ hk₁'
    have T₁ : Step (fun a => Own env a ∨ a ∈ [e, it]) σ₀ s₀ σ₀ { s₀ with heap := h₁, toks := s₀.toks + 1 } := Step.move fun b o hb x => hk₁' b o (fun z => hb (.inr z)) x
    have L₁ : LooseOK B env [e, it] [e, it] σ₀ { s₀ with heap := h₁, toks := s₀.toks + 1 } := ⟨L₀.w, L₀.f⟩
    have hTe : s₀.heap.objs.size ≠ e := Nat.ne_of_gt (Heap.lt_size he₀)
    have hTi : s₀.heap.objs.size ≠ it := by obtain ⟨_, x, _⟩ := hit₀; exact Nat.ne_of_gt (Heap.lt_size x)
    have rv₁ : VRel h₁ l[k] v := rv.keep fun c o x htl => hk₁' c o (fun z => enum_loose (.inl ⟨old, he₀⟩) hit₀ z x htl) x
    refine wpAny_letOwnedTupleGo_enum (s := { s₀ with heap := h₁, toks := s₀.toks + 1 }) ho₁ fun h₂ he₂ hs₂ => ?_
    have hk₂ : ∀ b o, b ∉ [e, it] → h₁.get? b = some o → h₂.get? b = some o := fun b o hb x => (hs₂.2 b (outin hb).1).trans x
    have hit₂ : h₂.IsListIter it p (k + 1) := hit₁.at fun o x => (hs₂.2 it hei.symm).trans x
    have M₂ := moved (h' := h₂) (s₀.toks + 1) (k + 1) ((k : Int) + 1) L₁ M₁ (.inr ⟨_, _, ho₁⟩) hit₁ hk₂
    have T₂ : Step (fun a => Own env a ∨ a ∈ [e, it]) σ₀ { s₀ with heap := h₁, toks := s₀.toks + 1 } σ₀ { s₀ with heap := h₂, toks := s₀.toks + 1 } := Step.move fun b o hb x => hk₂ b o (fun z => hb (.inr z)) x
    have rv₂ : VRel h₂ l[k] v := rv₁.keep fun c o x htl => hk₂ c o (fun z => enum_loose (.inr ⟨_, _, ho₁⟩) hit₁ z x htl) x
    have rT : VRel h₂ (.tup [.int k, l[k]]) (.ref s₀.heap.objs.size) :=
      ⟨_, _, _, rfl, hk₂ _ _ (notin hTe hTi) hT, by show 2 ≤ 16777216; decide, ⟨_, _, rfl, ⟨s₀.toks, rfl⟩, _, _, rfl, rv₂, rfl⟩⟩
    refine ht env A ρ₀ ρ₁ σ₀ _ _ _ _ _ hk g.hd M₂ rT hρ fun h₃ tk₃ M₃ hk₃ => ?_
    have T₃ : Step (Own env) σ₀ { s₀ with heap := h₂, toks := s₀.toks + 1 } σ₀ { s₀ with heap := h₃, toks := tk₃ } := Step.move hk₃
    have he₃ : ∃ old, IsEnum h₃ e it ((k : Int) + 1) old := ⟨_, hk₃ _ _ (L₀.f e (.head _)).2 he₂⟩
    have hit₃ : h₃.IsListIter it p (k + 1) := hit₂.at fun o x => hk₃ _ _ (L₀.f it (.tail _ (.head _))).2 x
    refine wpAny_mono (hb env A ρ₁ σ₀ _ _ hk g M₃ q₁) (fun f s₄ h₄ => ?_) fun _ _ x => x
    obtain ⟨fl, ρ₄, σ₄, fr, M₄, T₄, q₄⟩ := h₄
    have TT : Step (fun a => Own env a ∨ a ∈ [e, it]) σ s σ₄ s₄ := ((T₀.trans (T₁.trans T₂)).trans (T₃.more fun a z => .inl z)).trans (T₄.more fun a z => .inl z)
    cases fl with
    | next =>
      cases (fr : f = .next)
      have L₃ : LooseOK B env [e, it] [e, it] σ₀ { s₀ with heap := h₃, toks := tk₃ } := ⟨L₀.w, L₀.f⟩
      have hlive : ∀ b ∈ [e, it], ∃ o, h₃.get? b = some o := fun b hb => by
        cases hb with
        | head => obtain ⟨_, x⟩ := he₃; exact ⟨_, x⟩
        | tail _ hb => cases hb with
          | head => obtain ⟨o, x, _⟩ := hit₃; exact ⟨o, x⟩
          | tail _ h => cases h
      obtain ⟨old', he₃⟩ := he₃
      refine ⟨(enumItems l).length + 1 - (k + 1), by omega, k + 1, ρ₄, σ₄, rfl, hlt, M₄, ⟨⟨old', T₄.keep _ _ he₃ (L₀.f e (.head _)).1 (L₀.f e (.head _)).2⟩, hit₃.at fun o x => T₄.keep _ _ x (L₀.f it (.tail _ (.head _))).1 (L₀.f it (.tail _ (.head _))).2⟩, L₃.step (fun b hb => hb) hlive T₄, TT, q₄⟩
    | ret y =>
      obtain ⟨u, rfl, ru⟩ := fr
      exact ⟨_, .ret y, ρ₄, σ₄, rfl, ⟨u, rfl, ru⟩, M₄, TT, q₄⟩
  · have hke : k = (enumItems l).length := by omega
    subst hke
    rw [List.drop_length] at q₀
    obtain ⟨⟨m', hm⟩, q₀⟩ := q₀
    obtain ⟨vs, ⟨hl, _⟩, _, rs⟩ := M₀.core.objs _ _ hm
    have hlen := rs.length
    rw [Array.length_toList] at hlen
    refine wpAny_pyNext_enum_end g.hd he₀ hit₀ hl (Array.getElem?_eq_none (by rw [enum_len]; omega)) fun h₁ hx₁ => ?_
    have hk₁ : ∀ b o, b ∉ [e, it] → s₀.heap.get? b = some o → h₁.get? b = some o := fun b o hb x => hx₁ b o (outin hb).2 x
    have M₁ := moved (h' := h₁) s₀.toks _ _ L₀ M₀ (.inl ⟨old, he₀⟩) hit₀ hk₁
    have T₁ : Step (fun a => Own env a ∨ a ∈ [e, it]) σ₀ s₀ σ₀ { s₀ with heap := h₁, toks := s₀.toks } := Step.move fun b o hb x => hk₁ b o (fun z => hb (.inr z)) x
    exact ⟨_, .next, ρ₀, σ₀, rfl, rfl, M₁, T₀.trans T₁, q₀⟩
/-- a built-in called, whatever it gives -/
theorem call_biR {x : Str} {f : Value} {p pos : Pos} {e : Expr} {a : X} {mg mb} {R : Value → Shared → Prop} {Q' : V → Store → Prop} (T : TopOK B G mg mb) (g : Good A n) (hk : env.kindOf = kd) (M : Sim prog w B vars env ρ σ s) (hx : biTab.lookup x = some f)
    (hkx : kd x = some .globalImplicit) (hs : starred e = false) (h : SoundE prog w B vars S n kd e a) (q : wpE S a ρ σ Q')
    (hc : ∀ y v σ₁ s₁, VRel s₁.heap y v → Sim prog w B vars env ρ σ₁ s₁ → Step (Own env) σ s σ₁ s₁ → Q' y σ₁ → wpAny (model prog w) A (call f [v]) R (fun _ _ => False) s₁) (hf : ∃ t, f = .type t) :
    wpAny (model prog w) A (eval (.Call (.Name x p) [e] [] pos) env) R (fun _ _ => False) s := by
  show wpAny _ A (do callWith pos (← eval (.Name x p) env) [] (backTo pos (starEach [e] env)) (backToKw pos (keywordEach [] env))) _ _ s
  refine wpAny_bind (name_bi T M hx (by rw [hk]; exact hkx) (not_debug ⟨_, hx⟩) ?_)
  show wpAny _ A (callWith pos f [] (backTo pos (starEach [e] env)) []) _ _ s
  have hst : [e].all (fun e => !starred e) = true := by rw [List.all_cons, hs]; rfl
  have args : wpAny (model prog w) A (evalArgs f true (backTo pos (starEach [e] env)) []) (fun a s₁ => wpAny (model prog w) A (call f ([] ++ a.pos) a.kw) R (fun _ _ => False) s₁) (fun _ _ => False) s := by
    have := (SoundEs.cons h .nil hs) env A ρ σ s (fun ys σ₁ => match ys with | [y] => Q' y σ₁ | _ => False) hk g M q pos
    rw [backTo_cons hs] at this ⊢
    refine Calls.evalArgs_plain (wpAny_mono this (fun vs s₁ h₁ => ?_) fun _ _ x => x)
    obtain ⟨_, ys, σ₁, rs, M₁, T₁, q₁⟩ := h₁
    match ys, q₁ with
    | [y], q₁ =>
      obtain ⟨v, rfl, rv⟩ := rs.one'
      exact hc y v σ₁ s₁ rv M₁ T₁ q₁
  obtain ⟨t, rfl⟩ := hf
  exact PySem.callWith_type (backTo_plain hst) args
theorem SoundS.forEnum {es : List Expr} {tk0 : Nat} {tp np cp pos : Pos} {iter : Expr} {tg : Tgt} {it : X} {body : List Stmt} {xs : List Mine.S} {mg mb} (T : TopOK B G mg mb) (hkx : kd "enumerate" = some .globalImplicit) (ht : SoundT prog w B vars kd (.Tuple es tk0 tp) tg) (hi : SoundE prog w B vars S n kd iter it) (hb : SoundSs prog w B vars S n kd body xs) (hs : starred iter = false := by rfl) :
    SoundS prog w B vars S n kd (.For (.Tuple es tk0 tp) (.Call (.Name "enumerate" np) [iter] [] cp) body [] pos) (.forEnum tg it xs) := fun env A ρ σ s Q hk g M q => by
  have q : wpE S it ρ σ fun vi σ₁ => ∃ p m l, vi = .ref p ∧ σ₁ p = some (.list m l) ∧ l.length ≤ 1000000 ∧ forW (fun σ' => ∃ m', σ' p = some (.list m' l)) (fun v ρ σ Q => ∃ ρ', bindT tg v ρ = some ρ' ∧ wpSs S xs ρ' σ Q) (enumItems l) ρ σ₁ Q := q
  refine wpAny_For (call_biR T (f := .type "enumerate") g hk M (by decide +kernel) hkx hs hi q (fun y v σ₁ s₁ rv M₁ T₁ q₁ => ?_) ⟨_, rfl⟩) (fun _ => rfl)
  obtain ⟨p, m, l, rfl, hp, hz, q₁⟩ := q₁
  cases (rv : v = .ref p)
  obtain ⟨vs, ⟨hl, _⟩, _, rs⟩ := M₁.core.objs _ _ hp
  refine call_enumerate_list hl fun h' he hit hsz hkeep => ?_
  refine wpAny_pyIter_enum he ?_
  have hI0 : s₁.heap.get? s₁.heap.objs.size = none := get_size _
  have hI1 : s₁.heap.get? (s₁.heap.objs.size + 1) = none := get_size1 _
  obtain ⟨M₂, T₂⟩ := M₁.keeps (h' := h') s₁.toks hkeep
  have hno : ∀ {I : Addr}, s₁.heap.get? I = none → ¬ Own env I := fun hI z => by obtain ⟨o, e⟩ := M₁.frame.exists z; rw [hI] at e; cases e
  have hboth : ∀ b ∈ [s₁.heap.objs.size + 1, s₁.heap.objs.size], s₁.heap.get? b = none := fun b hb => by
    cases hb with
    | head => exact hI1
    | tail _ hb => cases hb with
      | head => exact hI0
      | tail _ h => cases h
  have L : LooseOK B env [s₁.heap.objs.size + 1, s₁.heap.objs.size] [s₁.heap.objs.size + 1, s₁.heap.objs.size] σ₁ { s₁ with heap := h' } :=
    ⟨fun b hb => M₁.core.free (hboth b hb), fun b hb => ⟨.of_none (M₁.core.free (hboth b hb)).1, hno (hboth b hb)⟩⟩
  refine codeAny_mono (enum_run (Nat.succ_ne_self _) g hk ht hb M₂ ⟨⟨_, he⟩, hit⟩ L q₁) fun r s₃ h₃ => ?_
  obtain ⟨f, fl, ρ₃, σ₃, rfl, fr, M₃, T₃, q₃⟩ := h₃
  refine ⟨fl, ρ₃, σ₃, fr, M₃, T₁.trans (Step.less ((T₂.more fun a z => .inl z).trans T₃) fun a o e z => ?_), q₃⟩
  rcases z with z | z
  · exact z
  · rw [hboth a z] at e; cases e
theorem ints_pairs : ∀ {ys : List (Int × Tok)}, IntsAre (ys.map fun p => Value.int p.1 p.2) (ys.map (·.1))
  | [] => .nil
  | y :: ys => .cons y.1 y.2 ints_pairs
theorem ints_are {h : Heap} {l : List V} {is : List Int} {vs : List Value} (e : intsOf l = some is) (r : VRels h l vs) : IntsAre vs is := by
  obtain ⟨ys, rfl, rfl⟩ := ints_items e r
  exact ints_pairs
theorem ints_rel {h : Heap} {vs : List Value} {ns : List Int} (x : IntsAre vs ns) : VRels h (ns.map .int) vs := by
  induction x with
  | nil => exact .nil
  | cons n t _ ih => exact .cons (by simp [VRel]) ih
theorem ints_len {vs : List Value} {ns : List Int} (x : IntsAre vs ns) : vs.length = ns.length := by
  induction x with
  | nil => rfl
  | cons n t _ ih => simp [ih]
theorem SoundE.sorted {p pos : Pos} {e : Expr} {a : X} {mg mb} (T : TopOK B G mg mb) (hkx : kd "sorted" = some .globalImplicit) (h : SoundE prog w B vars S n kd e a) (hs : starred e = false := by rfl) : SoundE prog w B vars S n kd (.Call (.Name "sorted" p) [e] [] pos) (.sorted a) := by
  refine SoundE.call1 T (f := .builtin "sorted") (by decide +kernel) hkx hs h (.inl ⟨_, rfl⟩) (fun va σ₁ Q => ∃ p m l is, va = .ref p ∧ σ₁ p = some (.list m l) ∧ l.length < 64 ∧ intsOf l = some is ∧ ∀ is' : List Int, is'.Perm is → is'.Pairwise (· ≤ ·) → fresh σ₁ (.list true (is'.map .int)) Q) (fun _ _ _ q => q) fun env A ρ y v σ₁ s₁ Q g rv M q => ?_
  obtain ⟨q, m, l, is, rfl, hp, hz, hi, q⟩ := q
  cases (rv : v = .ref _)
  obtain ⟨vs, ⟨hpl, _⟩, z, rs⟩ := M.core.objs _ _ hp
  have hlen := rs.length
  refine sorted_ints (vs := vs.toList) (by simpa using hpl) (ints_are hi rs) (by rw [hlen]; exact hz) fun out ns' h1 h2 h3 => ?_
  have hI1 : s₁.heap.get? (s₁.heap.objs.size + 1) = none := get_size1 _
  obtain ⟨c, hc⟩ := sortedAll_at s₁.heap vs.toList out
  have hl2 : out.toList.length ≤ 16777216 := by
    have e1 := ints_len h1
    have e2 := h2.length_eq
    have e3 := ints_len (ints_are hi rs)
    omega
  exact alloc_list (tk := s₁.toks) (vs := out.toList) M (ints_rel h1) hl2 (q ns' h2 h3) hI1 (fun b o x => sortedAll_old x) ⟨c, by simpa using hc⟩
theorem SoundE.pop {o : Expr} {a : X} {apos pos : Pos} (ho : SoundE prog w B vars S n kd o a) (hb : plainBase o = true := by rfl) (hl : (apos.endLine == pos.line) = true := by rfl) :
    SoundE prog w B vars S n kd (.Call (.Attribute o "pop" apos) [] [] pos) (.pop a) := by
  refine SoundE.of (fun _ => rfl) fun env A ρ σ s Q hk g M q => ?_
  have q : wpE S a ρ σ fun vo σ₁ => ∃ p l v, vo = .ref p ∧ σ₁ p = some (.list true (l ++ [v])) ∧ l.length ≤ 1000000 ∧ Q v (σ₁.set p (.list true l)) := q
  refine wpAny_Call_method (base_of hb) (few_of rfl (by simp)) hl F.plainAttrs_list F.slot_list_pop F.type_list_pop (wpAny_mono (ho.ev env A ρ σ s _ hk g M q) (fun ov s₁ h₁ => ?_) fun _ _ x => x)
  obtain ⟨x, σ₁, rv, M₁, T₁, p, l, y, rfl, hp, hz, q₁⟩ := h₁
  cases (rv : ov = .ref _)
  obtain ⟨vs, ⟨_, hpl⟩, z, rs⟩ := M₁.core.objs _ _ hp
  obtain ⟨k, gg⟩ := hpl rfl
  refine ⟨(show Heap.PlainList _ _ _ from ⟨k, gg⟩).isList.typeIs, fun c e => by cases e; exact ⟨_, gg, rfl⟩, ?_⟩
  have hlen := rs.length
  rw [Array.length_toList, List.length_append] at hlen
  have hlen : vs.size = l.length + 1 := hlen
  obtain ⟨v, hv, rv⟩ := rs.get (show (l ++ [y])[l.length]? = some y by rw [List.getElem?_append_right (Nat.le_refl _), Nat.sub_self]; rfl)
  show wpAny _ _ (callWith pos (.builtin "list.pop") [.ref p] [] []) _ _ _
  refine P.pop_list gg (y := v) (by rw [hlen]; simpa using hv) ?_ (by rw [sizeLine_eq]; omega)
  generalize hf : (fun xs : Array Value => xs.eraseIdxIfInBounds (vs.size - 1)) = f
  have em : (Obj.mapSeq f) { cls := .type "list", dict := none, data := .seq vs k, slots := #[] } = { cls := .type "list", dict := none, data := .seq (f vs) (if (f vs).size == vs.size then k else k + 1), slots := #[] } := rfl
  have hu := Heap.get?_update_self (Obj.mapSeq f) gg (by rw [em]; rfl)
  rw [em] at hu
  have hfv : (f vs).toList = vs.toList.take l.length := by
    rw [← hf]
    show (vs.eraseIdxIfInBounds (vs.size - 1)).toList = _
    have h1 : vs.size - 1 < vs.size := by omega
    unfold Array.eraseIdxIfInBounds
    rw [dif_pos h1, Array.toList_eraseIdx, ← Array.length_toList, List.eraseIdx_length_sub_one, List.dropLast_eq_take, Array.length_toList, hlen]
    rfl
  have hrs : VRels s₁.heap l (vs.toList.take l.length) := by
    have := rs.take l.length
    rw [List.take_left' rfl] at this; exact this
  obtain ⟨M₂, T₂⟩ := M₁.set (o' := .list true l) (h' := s₁.heap.update p (Obj.mapSeq f)) s₁.toks hp rfl (fun b o hb e => by rw [Heap.get?_update_other _ _ (Ne.symm hb)]; exact e)
    ⟨f vs, ⟨(show Heap.PlainList _ _ _ from ⟨_, hu⟩).isList, fun _ => ⟨_, hu⟩⟩, by have := congrArg List.length hfv; rw [Array.length_toList, List.length_take] at this; omega, by
      have ht : ∀ c o, s₁.heap.get? c = some o → tupLike o → (s₁.heap.update p (Obj.mapSeq f)).get? c = some o := fun c o e ht => by
        rw [Heap.get?_update_other _ _ (fun q => by subst q; rw [gg] at e; cases e; revert ht; unfold tupLike; simp)]; exact e
      rw [hfv]
      exact hrs.keep ht⟩
  refine ⟨y, _, rv.keep fun c o e ht => ?_, M₂, T₁.trans T₂, q₁⟩
  rw [Heap.get?_update_other _ _ (fun q => by subst q; rw [gg] at e; cases e; revert ht; unfold tupLike; simp)]; exact e
end
end Mine

namespace Mine
open PySem PyProof.Rows

section
variable {κ : PyProof.Rows.KeyKind} {xs : Array Keyed} {x : Nat}
theorem up_more (hs : SortedToK κ xs x) (h1 : 1 ≤ x) (h : κ.kle (KK κ xs (x - 1)) (KK κ xs x)) : SortedToK κ xs (x + 1) := fun i j hij hj => by
  rcases Nat.lt_or_ge j x with hx | hx
  · exact hs i j hij hx
  · cases Nat.le_antisymm hx (Nat.le_of_lt_succ hj)
    rcases Nat.lt_or_ge i x with hi | hi
    · exact KeyOrd.kle_trans (hs i (x - 1) (Nat.le_sub_one_of_lt hi) (Nat.sub_one_lt_of_le h1 (Nat.le_refl _))) h
    · cases Nat.le_antisymm hi hij; exact KeyOrd.kle_refl _
theorem down_more (hs : NonIncK κ xs x) (h1 : 1 ≤ x) (h : κ.kle (KK κ xs x) (KK κ xs (x - 1))) : NonIncK κ xs (x + 1) := fun i j hij hj => by
  rcases Nat.lt_or_ge j x with hx | hx
  · exact hs i j hij hx
  · cases Nat.le_antisymm hx (Nat.le_of_lt_succ hj)
    rcases Nat.lt_or_ge i x with hi | hi
    · exact KeyOrd.kle_trans h (hs i (x - 1) (Nat.le_sub_one_of_lt hi) (Nat.sub_one_lt_of_le h1 (Nat.le_refl _)))
    · cases Nat.le_antisymm hi hij; exact KeyOrd.kle_refl _
theorem one_up : SortedToK κ xs 1 := fun i j hij hj => by
  cases Nat.lt_one_iff.mp hj; cases Nat.le_zero.mp hij; exact KeyOrd.kle_refl _
theorem one_down : NonIncK κ xs 1 := fun i j hij hj => by
  cases Nat.lt_one_iff.mp hj; cases Nat.le_zero.mp hij; exact KeyOrd.kle_refl _
theorem flat_mirror {a b : Nat} (hb : b ≤ xs.size) (he : ∀ k, a ≤ k → k < b → KK κ xs k = KK κ xs (b - 1)) (hn : NonIncK κ xs x) : NonIncK κ (mirror xs a b ((b - a) / 2)) x := fun i j hij hj => by
  rw [KK_mirror_equal hb he, KK_mirror_equal hb he]; exact hn i j hij hj
end

section
variable {κ : PyProof.Rows.KeyKind} {xs : Array Keyed} {k l : Nat}
theorem bub_at (hk : k < xs.size) (hl : l ≤ k) (p : Nat) : (p < l ∧ KK κ (bubble xs k (k - l)) p = KK κ xs p) ∨ (p = l ∧ KK κ (bubble xs k (k - l)) p = KK κ xs k) ∨ (l < p ∧ p ≤ k ∧ KK κ (bubble xs k (k - l)) p = KK κ xs (p - 1)) ∨ k < p := by
  have e := KK_bubble (κ := κ) hk (Nat.sub_le k l) p
  rw [Nat.sub_sub_self hl] at e
  rcases Nat.lt_trichotomy p l with h | h | h
  · rw [if_neg (Nat.ne_of_lt h), if_neg (fun z => Nat.lt_asymm h z.1)] at e; exact .inl ⟨h, e⟩
  · rw [if_pos h] at e; exact .inr (.inl ⟨h, e⟩)
  · rcases Nat.lt_or_ge k p with h2 | h2
    · exact .inr (.inr (.inr h2))
    · rw [if_neg (Nat.ne_of_gt h), if_pos ⟨h, h2⟩] at e; exact .inr (.inr (.inl ⟨h, h2, e⟩))
theorem bub_up (hk : k < xs.size) (hl : l ≤ k) (hs : SortedToK κ xs k) (hlo : ∀ i, i < l → κ.kle (KK κ xs i) (KK κ xs k)) (hhi : ∀ i, l ≤ i → i < k → κ.kle (KK κ xs k) (KK κ xs i)) : SortedToK κ (bubble xs k (k - l)) (k + 1) := fun i j hij hj => by
  rcases bub_at (κ := κ) hk hl i with ⟨hi, e⟩ | ⟨hi, e⟩ | ⟨hi, hi', e⟩ | hi
  · rcases bub_at (κ := κ) hk hl j with ⟨hj', e'⟩ | ⟨hj', e'⟩ | ⟨hj', hj2, e'⟩ | hj'
    · rw [e, e']; exact hs _ _ hij (Nat.lt_of_lt_of_le hj' hl)
    · rw [e, e']; exact hlo _ hi
    · rw [e, e']; exact hs _ _ (Nat.le_sub_one_of_lt (Nat.lt_of_lt_of_le hi (Nat.le_of_lt hj'))) (Nat.sub_one_lt_of_le (Nat.lt_of_le_of_lt (Nat.zero_le _) hj') hj2)
    · exact absurd hj (Nat.not_lt_of_le hj')
  · rcases bub_at (κ := κ) hk hl j with ⟨hj', e'⟩ | ⟨hj', e'⟩ | ⟨hj', hj2, e'⟩ | hj'
    · exact absurd (hi ▸ hij) (Nat.not_le_of_lt hj')
    · rw [e, e']; exact KeyOrd.kle_refl _
    · rw [e, e']; exact hhi _ (Nat.le_sub_one_of_lt hj') (Nat.sub_one_lt_of_le (Nat.lt_of_le_of_lt (Nat.zero_le _) hj') hj2)
    · exact absurd hj (Nat.not_lt_of_le hj')
  · rcases bub_at (κ := κ) hk hl j with ⟨hj', e'⟩ | ⟨hj', e'⟩ | ⟨hj', hj2, e'⟩ | hj'
    · exact absurd (Nat.lt_trans (Nat.lt_of_lt_of_le hi hij) hj') (Nat.lt_irrefl _)
    · exact absurd (Nat.lt_of_lt_of_le hi (hj' ▸ hij)) (Nat.lt_irrefl _)
    · rw [e, e']; exact hs _ _ (Nat.sub_le_sub_right hij 1) (Nat.sub_one_lt_of_le (Nat.lt_of_le_of_lt (Nat.zero_le _) hj') hj2)
    · exact absurd hj (Nat.not_lt_of_le hj')
  · exact absurd (Nat.lt_of_lt_of_le hi hij) (Nat.not_lt_of_le (Nat.le_of_lt_succ hj))
end

/-- the sorting's state -/
structure SB (kd : SortKind) (a₀ : Array Keyed) (st : SortSt) : Prop where
  perm : (arrOf st).Perm a₀
  kind : kindOf st = kd
  failed : failedOf st = none
  pend : pendingOf st = #[]
theorem SB.set {kd : SortKind} {a₀ xs : Array Keyed} {st : SortSt} (h : SB kd a₀ st) (hp : xs.Perm (arrOf st)) : SB kd a₀ (setArr st xs) := ⟨hp.trans h.perm, h.kind, h.failed, h.pend⟩
theorem SB.size {kd : SortKind} {a₀ : Array Keyed} {st : SortSt} (h : SB kd a₀ st) : (arrOf st).size = a₀.size := h.perm.size_eq
/-- keys that are told apart as the order says, nothing turned -/
noncomputable def LtOK (prog : Program) (w : World) (A : Around) (s : Shared) (kd : SortKind) (κ : PyProof.Rows.KeyKind) : Prop :=
  ∀ (E : Value → Shared → Prop) (x y : Value) (a b : κ.α) (Q : Bool → Shared → Prop), κ.keyOf x = some a → κ.keyOf y = some b → Q (κ.blt a b) s → wpAny (model prog w) A (keyLt' kd x y) Q E s
section
variable {prog : Program} {w : World} {A : Around} {E : Value → Shared → Prop} {s : Shared} {a₀ : Array Keyed} {κ : PyProof.Rows.KeyKind} {kd : SortKind} {st : SortSt}
variable (hO : LtOK prog w A s kd κ) (h0 : KeysOf κ a₀)
include hO h0

theorem sb_lt {i j : Nat} {Q : Option Bool → SortSt → Prop} (hB : SB kd a₀ st) (hi : i < a₀.size) (hj : j < a₀.size) (h : Q (some (κ.blt (KK κ (arrOf st) i) (KK κ (arrOf st) j))) st) : PyProof.Rows.wpS (model prog w) A E s (ltAt' i j) Q st := by
  have key : ∀ {i : Nat}, i < a₀.size → ∃ p a, (arrOf st)[i]? = some p ∧ κ.keyOf p.1 = some a ∧ KK κ (arrOf st) i = a := fun {i} hi => by
    have hi' : i < (arrOf st).size := by rw [hB.size]; exact hi
    obtain ⟨a, ha⟩ := h0 (arrOf st)[i] ((Array.perm_iff_toList_perm.mp hB.perm).mem_iff.mp (Array.getElem_mem_toList hi'))
    refine ⟨_, a, Array.getElem?_eq_getElem hi', ha, ?_⟩
    unfold KK; rw [Array.getElem?_eq_getElem hi']
    show (κ.keyOf (arrOf st)[i].1).getD κ.dflt = a
    rw [ha]; rfl
  obtain ⟨p, a, e1, ha, ka⟩ := key hi
  obtain ⟨q, b, e2, hb, kb⟩ := key hj
  rw [ka, kb] at h
  rw [ltAt'_eq]
  refine wpS_bind (wpS_get ?_)
  show PyProof.Rows.wpS _ _ _ _ (do let x ← elem' (arrOf st) i; let y ← elem' (arrOf st) j; lt' x y) Q st
  rw [elem'_eq, elem'_eq, e1, e2]
  refine wpS_bind (wpS_pure (wpS_bind (wpS_pure ?_)))
  rw [lt'_eq]
  refine wpS_bind (wpS_get ?_)
  rw [hB.kind]
  exact wpS_bind (wpS_lift (wpAny_attempt (hO _ _ _ a b _ ha hb ⟨rfl, wpS_pure h⟩)))
theorem asc_ok {a m : Nat} {Q : AscSt → SortSt → Prop} (hm : m ≤ a₀.size) (ha : 1 ≤ a) (ham : a ≤ m) (hB : SB kd a₀ st) (hs : SortedToK κ (arrOf st) a)
    (h : ∀ n, a ≤ n → n ≤ m → SortedToK κ (arrOf st) n → (n = m ∨ κ.klt (KK κ (arrOf st) n) (KK κ (arrOf st) (n - 1))) → Q (none, n) st) : PyProof.Rows.wpS (model prog w) A E s (ascLoop a m) Q st := by
  unfold ascLoop
  refine wpS_forRange (I := fun x c st' => st' = st ∧ c = (none, x) ∧ SortedToK κ (arrOf st) x) (fun x c st' hax hxm => ?_) (fun c st' => ?_) ⟨rfl, rfl, hs⟩
  · rintro ⟨rfl, rfl, hs'⟩
    refine wpS_bind (sb_lt hO h0 hB (Nat.lt_of_lt_of_le hxm hm) (Nat.lt_of_le_of_lt (Nat.sub_le _ _) (Nat.lt_of_lt_of_le hxm hm)) ?_)
    dsimp only
    cases e : κ.blt (KK κ (arrOf st') x) (KK κ (arrOf st') (x - 1)) with
    | true => exact wpS_pure (h x hax (Nat.le_of_lt hxm) hs' (.inr e))
    | false => exact wpS_pure ⟨rfl, rfl, up_more hs' (Nat.le_trans ha hax) e⟩
  · rintro ⟨rfl, rfl, hs'⟩
    rw [Nat.max_eq_right ham] at hs' ⊢
    exact h m ham (Nat.le_refl _) hs' (.inl rfl)
theorem rest_ok {n m : Nat} {Q : Option Nat → SortSt → Prop} (hm : m ≤ a₀.size) (h1 : 1 ≤ n) (hnm : n ≤ m) (hB : SB kd a₀ st) (hs : NonIncK κ (arrOf st) n)
    (h : ∀ k st', SB kd a₀ st' → 1 ≤ k → k ≤ m → SortedToK κ (arrOf st') k → Q (some k) st') : PyProof.Rows.wpS (model prog w) A E s (tail3 n m) Q st := by
  unfold tail3
  have hsz : n ≤ (arrOf st).size := by rw [hB.size]; exact Nat.le_trans hnm hm
  have hB' : SB kd a₀ (setArr st (mirror (arrOf st) 0 n ((n - 0) / 2))) := hB.set (mirror_perm _ _ _ _)
  refine wpS_bind (wpS_reverse (wpS_bind (asc_ok hO h0 hm h1 hnm hB' (fun i j hij hj => ?_) fun k hk1 hk2 hk3 _ => wpS_pure (h k _ hB' (Nat.le_trans h1 hk1) hk2 hk3))))
  show κ.kle (KK κ (mirror (arrOf st) 0 n ((n - 0) / 2)) i) (KK κ (mirror (arrOf st) 0 n ((n - 0) / 2)) j)
  rw [KK_mirror hsz, KK_mirror hsz, if_pos ⟨Nat.zero_le _, Nat.lt_of_le_of_lt hij hj⟩, if_pos ⟨Nat.zero_le _, hj⟩]
  exact hs _ _ (Nat.sub_le_sub_left hij _) (by omega)
theorem desc_ok {n m : Nat} {Q : DescSt → SortSt → Prop} (hm : m ≤ a₀.size) (h1 : 1 ≤ n) (hnm : n ≤ m) (hB : SB kd a₀ st) (hs : NonIncK κ (arrOf st) n)
    (h : ∀ k q st', SB kd a₀ st' → n ≤ k → k ≤ m → NonIncK κ (arrOf st') k → (∀ i, k - (q + 1) ≤ i → i < k → KK κ (arrOf st') i = KK κ (arrOf st') (k - 1)) → Q (none, k, q) st') : PyProof.Rows.wpS (model prog w) A E s (descLoop n m) Q st := by
  unfold descLoop
  have self : ∀ {xs : Array Keyed} {x : Nat}, ∀ i, x + 1 - (0 + 1) ≤ i → i < x + 1 → KK κ xs i = KK κ xs (x + 1 - 1) := fun {xs x} i a b => by rw [show i = x + 1 - 1 by omega]
  refine wpS_forRange (I := fun x c st' => ∃ q, c = (none, x, q) ∧ SB kd a₀ st' ∧ NonIncK κ (arrOf st') x ∧ ∀ i, x - (q + 1) ≤ i → i < x → KK κ (arrOf st') i = KK κ (arrOf st') (x - 1)) (fun x c st' hax hxm => ?_) (fun c st' => ?_) ⟨0, rfl, hB, hs, fun i a b => by rw [show i = n - 1 by omega]⟩
  · rintro ⟨q, rfl, hB', hs', he⟩
    have hsz : x ≤ (arrOf st').size := by rw [hB'.size]; exact Nat.le_trans (Nat.le_of_lt hxm) hm
    dsimp only
    refine wpS_bind (sb_lt hO h0 hB' (Nat.lt_of_lt_of_le hxm hm) (Nat.lt_of_le_of_lt (Nat.sub_le _ _) (Nat.lt_of_lt_of_le hxm hm)) ?_)
    dsimp only
    cases e : κ.blt (KK κ (arrOf st') x) (KK κ (arrOf st') (x - 1)) with
    | true =>
      have hd := down_more hs' (Nat.le_trans h1 hax) (KeyOrd.kle_of_klt e)
      rw [if_pos rfl]
      by_cases hq : q > 0
      · rw [if_pos hq]
        exact wpS_bind (wpS_reverse (wpS_pure ⟨0, rfl, hB'.set (mirror_perm _ _ _ _), flat_mirror hsz he hd, self⟩))
      · rw [if_neg hq]
        exact wpS_pure ⟨0, rfl, hB', hd, self⟩
    | false =>
      rw [if_neg (fun z => nomatch z)]
      refine wpS_bind (sb_lt hO h0 hB' (Nat.lt_of_le_of_lt (Nat.sub_le _ _) (Nat.lt_of_lt_of_le hxm hm)) (Nat.lt_of_lt_of_le hxm hm) ?_)
      dsimp only
      cases e' : κ.blt (KK κ (arrOf st') (x - 1)) (KK κ (arrOf st') x) with
      | true => exact wpS_pure (h x q st' hB' hax (Nat.le_of_lt hxm) hs' he)
      | false =>
        have hx : KK κ (arrOf st') x = KK κ (arrOf st') (x - 1) := KeyOrd.kle_antisymm e' e
        refine wpS_pure ⟨q + 1, rfl, hB', down_more hs' (Nat.le_trans h1 hax) e', fun i a b => ?_⟩
        rw [Nat.add_sub_cancel]
        rcases Nat.lt_or_ge i x with hi | hi
        · rw [hx]; exact he i (by omega) hi
        · rw [show i = x by omega]
  · rintro ⟨q, rfl, hB', hs', he⟩
    rw [Nat.max_eq_right hnm] at hs' he ⊢
    exact h m q st' hB' hnm (Nat.le_refl _) hs' he
theorem down_ok {n m : Nat} {Q : Option Nat → SortSt → Prop} (hm : m ≤ a₀.size) (hnm : n + 1 ≤ m) (hB : SB kd a₀ st) (hs : NonIncK κ (arrOf st) (n + 1))
    (h : ∀ k st', SB kd a₀ st' → 1 ≤ k → k ≤ m → SortedToK κ (arrOf st') k → Q (some k) st') : PyProof.Rows.wpS (model prog w) A E s (descPart n m) Q st := by
  unfold descPart
  refine wpS_bind (wpS_lift (wpAny_rule ⟨rfl, ?_⟩))
  refine wpS_bind (desc_ok hO h0 hm (Nat.succ_le_succ (Nat.zero_le _)) hnm hB hs fun k q st' hB' hk1 hk2 hs' he => ?_)
  have hsz : k ≤ (arrOf st').size := by rw [hB'.size]; exact Nat.le_trans hk2 hm
  dsimp only
  by_cases hq : q > 0
  · rw [if_pos hq]
    exact wpS_bind (wpS_reverse (rest_ok hO h0 hm (Nat.le_trans (Nat.succ_le_succ (Nat.zero_le _)) hk1) hk2 (hB'.set (mirror_perm _ _ _ _)) (flat_mirror hsz he hs') h))
  · rw [if_neg hq]
    exact rest_ok hO h0 hm (Nat.le_trans (Nat.succ_le_succ (Nat.zero_le _)) hk1) hk2 hB' hs' h
theorem run_ok {m : Nat} {Q : Option Nat → SortSt → Prop} (hm : m ≤ a₀.size) (h1 : 1 ≤ m) (hB : SB kd a₀ st)
    (h : ∀ k st', SB kd a₀ st' → 1 ≤ k → k ≤ m → SortedToK κ (arrOf st') k → Q (some k) st') : PyProof.Rows.wpS (model prog w) A E s (countRun' 0 m) Q st := by
  rw [countRun0_eq]
  refine wpS_bind (asc_ok hO h0 hm (Nat.le_refl 1) h1 hB one_up fun n hn1 hn2 hs hor => ?_)
  dsimp only
  by_cases hnm : n = m
  · rw [if_pos (beq_iff_eq.mpr hnm)]
    exact wpS_pure (h n st hB hn1 hn2 hs)
  · rw [if_neg (fun z => hnm (beq_iff_eq.mp z))]
    have hlt := KeyOrd.kle_of_klt (hor.resolve_left hnm)
    by_cases hgt : n > 1
    · rw [if_pos hgt]
      refine wpS_bind (sb_lt hO h0 hB (Nat.lt_of_lt_of_le (Nat.lt_of_lt_of_le hn1 hn2) hm) (Nat.lt_of_lt_of_le (Nat.sub_one_lt_of_le hn1 hn2) hm) ?_)
      dsimp only
      cases e : κ.blt (KK κ (arrOf st) 0) (KK κ (arrOf st) (n - 1)) with
      | true => rw [if_pos rfl]; exact wpS_pure (h n st hB hn1 hn2 hs)
      | false =>
        rw [if_neg (fun z => nomatch z)]
        have hsz : n ≤ (arrOf st).size := by rw [hB.size]; exact Nat.le_trans hn2 hm
        have all : ∀ k, 0 ≤ k → k < n → KK κ (arrOf st) k = KK κ (arrOf st) (n - 1) := fun k _ hk =>
          KeyOrd.kle_antisymm (hs k (n - 1) (Nat.le_sub_one_of_lt hk) (Nat.sub_one_lt_of_le hn1 (Nat.le_refl _))) (KeyOrd.kle_trans e (hs 0 k (Nat.zero_le _) hk))
        have hd : NonIncK κ (arrOf st) n := fun i j _ hj => by rw [all i (Nat.zero_le _) (by omega), all j (Nat.zero_le _) hj]; exact KeyOrd.kle_refl _
        exact wpS_bind (wpS_reverse (down_ok hO h0 hm (Nat.lt_of_le_of_ne hn2 hnm) (hB.set (mirror_perm _ _ _ _)) (flat_mirror hsz all (down_more hd hn1 hlt)) h))
    · rw [if_neg hgt]
      have hn : n = 1 := Nat.le_antisymm (Nat.not_lt.mp hgt) hn1
      subst hn
      exact down_ok hO h0 hm (Nat.lt_of_le_of_ne hn2 hnm) hB (down_more one_down (Nat.le_refl _) hlt) h
theorem ins_ok {m : Nat} {Q : Bool → SortSt → Prop} (hm1 : 1 ≤ m) (hm : m ≤ a₀.size) (hB : SB kd a₀ st) (hs : SortedToK κ (arrOf st) m)
    (h : ∀ st', SB kd a₀ st' → SortedToK κ (arrOf st') a₀.size → Q true st') : PyProof.Rows.wpS (model prog w) A E s (binarySort' 0 a₀.size m) Q st := by
  rw [binarySort'_eq, Nat.max_eq_left hm1]
  refine wpS_bind (wpS_mono (wpS_forRange (I := fun k c st' => c = (none, ()) ∧ SB kd a₀ st' ∧ SortedToK κ (arrOf st') k) (Q := fun c st' => c = (none, ()) ∧ SB kd a₀ st' ∧ SortedToK κ (arrOf st') a₀.size) (fun k c st₁ hak hkn => ?_) (fun c st' hh => by rw [Nat.max_eq_right hm] at hh; exact hh) ⟨rfl, hB, hs⟩) fun c st' hh => ?_)
  · rintro ⟨rfl, hB₁, hs₁⟩
    refine wpS_bind (wpS_mono (wpS_forRange (I := fun x c st₂ => st₂ = st₁ ∧ ∃ l r, c = (none, l, r) ∧ l ≤ r ∧ r ≤ k ∧ r - l ≤ k - x ∧ (∀ i, i < l → κ.kle (KK κ (arrOf st₁) i) (KK κ (arrOf st₁) k)) ∧ ∀ i, r ≤ i → i < k → κ.kle (KK κ (arrOf st₁) k) (KK κ (arrOf st₁) i))
      (Q := fun c st₂ => st₂ = st₁ ∧ ∃ l r, c = (none, l, r) ∧ l ≤ k ∧ (∀ i, i < l → κ.kle (KK κ (arrOf st₁) i) (KK κ (arrOf st₁) k)) ∧ ∀ i, l ≤ i → i < k → κ.kle (KK κ (arrOf st₁) k) (KK κ (arrOf st₁) i)) (fun x c st₂ _ hxk => ?_) (fun c st₂ => ?_) ⟨rfl, 0, k, rfl, Nat.zero_le _, Nat.le_refl _, Nat.le_refl _, fun i z => absurd z (Nat.not_lt_zero _), fun i z z' => absurd z' (Nat.not_lt_of_le z)⟩) fun c st₂ => ?_)
    · rintro ⟨rfl, l, r, rfl, hlr, hrk, hd, hlo, hhi⟩
      dsimp only
      by_cases hge : l ≥ r
      · rw [if_pos hge]
        cases (show l = r by omega)
        exact wpS_pure ⟨rfl, l, l, rfl, hrk, hlo, hhi⟩
      · rw [if_neg hge]
        rw [Nat.zero_add, Nat.zero_add]
        refine wpS_bind (sb_lt hO h0 hB₁ hkn (by omega) ?_)
        dsimp only
        cases e : κ.blt (KK κ (arrOf st₂) k) (KK κ (arrOf st₂) ((l + r) / 2)) with
        | true => exact wpS_pure ⟨rfl, l, (l + r) / 2, rfl, by omega, by omega, by omega, hlo, fun i a b => KeyOrd.kle_trans (KeyOrd.kle_of_klt e) (hs₁ _ _ a b)⟩
        | false => exact wpS_pure ⟨rfl, (l + r) / 2 + 1, r, rfl, by omega, by omega, by omega, fun i a => KeyOrd.kle_trans (hs₁ i ((l + r) / 2) (by omega) (by omega)) e, hhi⟩
    · rintro ⟨rfl, l, r, rfl, hlr, hrk, hd, hlo, hhi⟩
      cases (show l = r by omega)
      exact ⟨rfl, l, l, rfl, hrk, hlo, hhi⟩
    · rintro ⟨rfl, l, r, rfl, hlk, hlo, hhi⟩
      show PyProof.Rows.wpS _ _ _ _ (do moveDown' (0 + k) (0 + l); pure (ForInStep.yield (none, ()))) _ _
      rw [Nat.zero_add, Nat.zero_add, moveDown'_eq]
      exact wpS_bind (wpS_modify (wpS_pure ⟨rfl, hB₁.set (bubble_perm _ _ _), bub_up (by rw [hB₁.size]; exact hkn) hlk hs₁ hlo hhi⟩))
  · obtain ⟨rfl, hB', hs'⟩ := hh
    exact wpS_pure (h st' hB' hs')
theorem runs_ok {Q : Unit → SortSt → Prop} (hB : SB kd a₀ st) (h2 : 2 ≤ a₀.size) (h64 : a₀.size < 64)
    (h : ∀ st', (arrOf st').Perm a₀ → failedOf st' = none → SortedToK κ (arrOf st') a₀.size → Q () st') : PyProof.Rows.wpS (model prog w) A E s sortRuns' Q st := by
  rw [sortRuns'_eq]
  refine wpS_bind (wpS_get ?_)
  dsimp only
  have hmr : minRun' a₀.size a₀.size 0 = a₀.size := by
    cases e : a₀.size with
    | zero => exact absurd (e ▸ h2) (by decide)
    | succ f => rw [minRun'_succ, if_pos (by omega)]
  rw [hB.size, hmr]
  refine wpS_bind (wpS_mono (wpS_forRange (I := fun x c st' => (x = 0 ∧ c = (none, 0) ∧ SB kd a₀ st') ∨ (1 ≤ x ∧ c = (none, a₀.size) ∧ (arrOf st').Perm a₀ ∧ failedOf st' = none ∧ (pendingOf st').size ≤ 1 ∧ SortedToK κ (arrOf st') a₀.size))
    (Q := fun c st' => c = (none, a₀.size) ∧ (arrOf st').Perm a₀ ∧ failedOf st' = none ∧ (pendingOf st').size ≤ 1 ∧ SortedToK κ (arrOf st') a₀.size) (fun x c st' _ hx => ?_) (fun c st' => ?_) (.inl ⟨rfl, rfl, hB⟩)) fun c st' => ?_)
  · have done : ∀ {st₂ : SortSt}, SB kd a₀ st₂ → SortedToK κ (arrOf st₂) a₀.size → (arrOf (setPending st₂ ((pendingOf st₂).push (0, a₀.size, 0)))).Perm a₀ ∧ failedOf (setPending st₂ ((pendingOf st₂).push (0, a₀.size, 0))) = none ∧ (pendingOf (setPending st₂ ((pendingOf st₂).push (0, a₀.size, 0)))).size ≤ 1 ∧ SortedToK κ (arrOf (setPending st₂ ((pendingOf st₂).push (0, a₀.size, 0)))) a₀.size :=
      fun hB₂ hs₂ => ⟨hB₂.perm, hB₂.failed, by show ((pendingOf _).push _).size ≤ 1; rw [hB₂.pend]; exact Nat.le_refl 1, hs₂⟩
    rintro (⟨rfl, rfl, hB'⟩ | ⟨hx1, rfl, hD⟩)
    · dsimp only
      rw [if_neg (by omega)]
      refine wpS_bind (run_ok (m := a₀.size) hO h0 (Nat.le_refl _) (by omega) hB' fun m st₂ hB₂ hm1 hm2 hs₂ => ?_)
      dsimp only
      by_cases hlt : m < a₀.size
      · rw [if_pos hlt]
        refine wpS_bind (wpS_lift (wpAny_rule ⟨rfl, ?_⟩))
        rw [show min (a₀.size - 0) a₀.size = a₀.size from Nat.min_self _]
        refine wpS_bind (ins_ok hO h0 hm1 hm2 hB₂ hs₂ fun st₃ hB₃ hs₃ => ?_)
        rw [Bool.not_true, if_neg (fun z => nomatch z)]
        refine wpS_bind (wpS_get ?_)
        rw [show (pendingOf st₃).back? = none by rw [hB₃.pend]; rfl]
        exact wpS_bind (wpS_modify (wpS_pure (.inr ⟨Nat.le_refl _, by rw [Nat.zero_add], done hB₃ hs₃⟩)))
      · rw [if_neg hlt]
        cases (show m = a₀.size by omega)
        refine wpS_bind (wpS_get ?_)
        rw [show (pendingOf st₂).back? = none by rw [hB₂.pend]; rfl]
        exact wpS_bind (wpS_modify (wpS_pure (.inr ⟨Nat.le_refl _, by rw [Nat.zero_add], done hB₂ hs₂⟩)))
    · dsimp only
      rw [if_pos (Nat.le_refl _)]
      exact wpS_pure ⟨rfl, hD⟩
  · rintro (⟨hx, _, _⟩ | ⟨_, hc, hD⟩)
    · omega
    · exact ⟨hc, hD⟩
  · rintro ⟨rfl, hp, hf, hz, hs⟩
    dsimp only
    refine wpS_bind (wpS_mono (wpS_forRange (I := fun _ c st₂ => st₂ = st' ∧ c = (none, ())) (Q := fun c st₂ => st₂ = st' ∧ c = (none, ())) ?_ (fun _ _ hh => hh) ⟨rfl, rfl⟩) ?_)
    · rintro x c st₂ _ _ ⟨rfl, rfl⟩
      refine wpS_bind (wpS_get ?_)
      rw [if_pos hz]
      exact wpS_pure ⟨rfl, rfl⟩
    · rintro c st₂ ⟨rfl, rfl⟩
      exact wpS_pure (h _ hp hf hs)
end
end Mine

namespace Mine
open PySem PyProof.Rows

/-- a pair of ints, as it lies -/
noncomputable def PairAt (h : Heap) (v : Value) (p : Int × Int) : Prop := ∃ a t u n, v = .ref a ∧ h.get? a = some { cls := .type "tuple", data := .seq #[.int p.1 t, .int p.2 u] n }
theorem PairAt.uniq {h : Heap} {v : Value} {p q : Int × Int} (x : PairAt h v p) (y : PairAt h v q) : p = q := by
  obtain ⟨a, t, u, n, rfl, e⟩ := x
  obtain ⟨a', t', u', n', e0, e'⟩ := y
  cases e0
  rw [e] at e'
  have e2 := congrArg (fun o : Option Obj => match o with | some o => (match o.data with | .seq xs _ => xs.toList | _ => []) | none => []) e'
  have e3 : [Value.int p.1 t, .int p.2 u] = [.int q.1 t', .int q.2 u'] := e2
  injection e3 with e4 e5
  injection e5 with e5 _
  injection e4 with e4 _
  injection e5 with e5 _
  exact Prod.ext e4 e5
theorem PairAt.keep {h h' : Heap} {v : Value} {p : Int × Int} (x : PairAt h v p) (k : ∀ b o, h.get? b = some o → h'.get? b = some o) : PairAt h' v p :=
  let ⟨a, t, u, n, e, g⟩ := x; ⟨a, t, u, n, e, k _ _ g⟩
noncomputable def pairLt (a b : Int × Int) : Bool := decide (a.1 < b.1) || (decide (a.1 = b.1) && decide (a.2 < b.2))
theorem pairLt_iff {a b : Int × Int} : pairLt a b = true ↔ a.1 < b.1 ∨ (a.1 = b.1 ∧ a.2 < b.2) := by
  unfold pairLt; rw [Bool.or_eq_true, Bool.and_eq_true, decide_eq_true_eq, decide_eq_true_eq, decide_eq_true_eq]
theorem pairLt_no {a b : Int × Int} : pairLt a b = false ↔ ¬ (a.1 < b.1 ∨ (a.1 = b.1 ∧ a.2 < b.2)) := by
  rw [← pairLt_iff, Bool.not_eq_true]
open Classical in
noncomputable def pairKind (h : Heap) : PyProof.Rows.KeyKind where
  α := Int × Int
  blt := pairLt
  irrefl a := pairLt_no.mpr fun h => h.elim (Int.lt_irrefl _) fun h => Int.lt_irrefl _ h.2
  trans a b c x y := by
    rw [pairLt_iff] at *
    rcases x with x | x <;> rcases y with y | y
    · exact .inl (Int.lt_trans x y)
    · exact .inl (y.1 ▸ x)
    · exact .inl (x.1 ▸ y)
    · exact .inr ⟨x.1.trans y.1, Int.lt_trans x.2 y.2⟩
  negTrans a b c x := by
    rw [pairLt_iff] at *; rw [pairLt_iff]
    rcases Int.lt_trichotomy a.1 b.1 with h | h | h
    · exact .inl (.inl h)
    · rcases x with x | x
      · exact .inr (.inl (h ▸ x))
      · rcases Int.lt_or_le a.2 b.2 with k | k
        · exact .inl (.inr ⟨h, k⟩)
        · exact .inr (.inr ⟨h.symm.trans x.1, Int.lt_of_le_of_lt k x.2⟩)
    · exact .inr (.inl (x.elim (Int.lt_trans h) fun x => x.1 ▸ h))
  total a b x y := by
    rw [pairLt_no] at *
    have h : a.1 = b.1 := Int.le_antisymm (Int.not_lt.mp fun z => y (.inl z)) (Int.not_lt.mp fun z => x (.inl z))
    exact Prod.ext h (Int.le_antisymm (Int.not_lt.mp fun z => y (.inr ⟨h.symm, z⟩)) (Int.not_lt.mp fun z => x (.inr ⟨h, z⟩)))
  keyOf v := if e : ∃ p, PairAt h v p then some e.choose else none
  dflt := (0, 0)
theorem key_pair {h : Heap} {v : Value} {p : Int × Int} (e : (pairKind h).keyOf v = some p) : PairAt h v p := by
  unfold pairKind at e
  dsimp only at e
  split at e
  · rename_i x; cases e; exact x.choose_spec
  · cases e
theorem pair_key {h : Heap} {v : Value} {p : Int × Int} (x : PairAt h v p) : (pairKind h).keyOf v = some p := by
  unfold pairKind
  dsimp only
  rw [dif_pos ⟨p, x⟩]
  exact congrArg some (PairAt.uniq (Exists.choose_spec (⟨p, x⟩ : ∃ p, PairAt h v p)) x)
theorem keyLt'_tuples (b : Bool) (x y : Value) : keyLt' (tuples' b) x y = (do
    let xs ← Builtin.List.listItems x
    let ys ← Builtin.List.listItems y
    for ((p, q), i) in (xs.toList.zip ys.toList).zipIdx do
      if !(← eqBool p q) then return ← oneLt' (b && i == 0) p q
    return xs.size < ys.size) := rfl
section
variable {prog : Program} {w : World} {A : Around} {E : Value → Shared → Prop} {s : Shared}

theorem oneLt_int' {b : Bool} {i j : Int} {t u : Tok} {Q : Bool → Shared → Prop} (h : Q (decide (i < j)) s) : wpAny (model prog w) A (oneLt' b (.int i t) (.int j u)) Q E s := by
  cases b with
  | true => exact oneLt_int h
  | false =>
    rw [oneLt'_eq]
    simp only [Bool.false_eq_true, if_false]
    exact wpAny_bind (wpAny_richCompare_same (typeIs_int s i t) (typeIs_int s j u) slot_int_lt (call_int_lt ⟨(fun z => nomatch z), wpAny_truthy_bool h⟩))
theorem pair_lt : LtOK prog w A s (tuples' true) (pairKind s.heap) := by
  intro E x y p q Q hx hy hq
  obtain ⟨a, t, u, n, rfl, ha⟩ := key_pair hx
  obtain ⟨a', t', u', n', rfl, ha'⟩ := key_pair hy
  rw [keyLt'_tuples]
  refine wpAny_bind (listItems_at ha rfl (wpAny_bind (listItems_at ha' rfl ?_)))
  have hq : Q (decide (p.1 < q.1) || (decide (p.1 = q.1) && decide (p.2 < q.2))) s := hq
  show wpAny _ _ (do
    let r ← forIn [((Value.int p.1 t, Value.int q.1 t'), 0), ((Value.int p.2 u, Value.int q.2 u'), 1)] _ _
    _) _ _ _
  rw [List.forIn_cons]
  refine wpAny_bind (wpAny_bind (wpAny_bind (wpAny_eqBool_int ?_)))
  by_cases h1 : p.1 = q.1
  · rw [h1, beq_self_eq_true]
    rw [decide_eq_true h1, decide_eq_false (by omega)] at hq
    refine wpAny_pure ?_
    dsimp only
    rw [List.forIn_cons]
    refine wpAny_bind (wpAny_bind (wpAny_eqBool_int ?_))
    by_cases h2 : p.2 = q.2
    · rw [h2, beq_self_eq_true]
      rw [decide_eq_false (by omega)] at hq
      exact wpAny_pure (wpAny_pure (wpAny_pure hq))
    · rw [beq_eq_false_iff_ne.mpr h2]
      exact wpAny_bind (oneLt_int' (wpAny_pure (wpAny_pure (wpAny_pure hq))))
  · rw [beq_eq_false_iff_ne.mpr h1]
    rw [decide_eq_false h1, Bool.false_and, Bool.or_false] at hq
    exact wpAny_bind (oneLt_int' (wpAny_pure (wpAny_pure (wpAny_pure hq))))
theorem firsts_ok : ∀ {vs : List Value} {Q : List (Option Value) → Shared → Prop}, (∀ v ∈ vs, ∃ p, PairAt s.heap v p) → (∀ fs : List Value, fs.length = vs.length → (∀ f ∈ fs, ∃ n t, f = .int n t) → Q (fs.map some) s) → wpAny (model prog w) A (vs.mapM firstOfTuple') Q E s
  | [], Q, _, h => by rw [List.mapM_nil]; exact wpAny_pure (h [] rfl fun _ z => nomatch z)
  | v :: vs, Q, hP, h => by
    obtain ⟨p, a, t, u, n, rfl, ha⟩ := hP v (.head _)
    rw [List.mapM_cons]
    refine wpAny_bind ?_
    show wpAny _ _ (do
      if (← typeOf (.ref a)) != .type "tuple" then return none
      return (← Builtin.List.listItems (.ref a))[0]? : Sem (Option Value)) _ _ _
    refine wpAny_bind (wpAny_typeOf (T := "tuple") ⟨_, ha, rfl⟩ ?_)
    rw [bne_self_eq_false]
    refine wpAny_bind (listItems_at ha rfl (wpAny_pure ?_))
    refine wpAny_bind (firsts_ok (fun v hv => hP v (.tail _ hv)) fun fs h1 h2 => wpAny_pure ?_)
    exact h (.int p.1 t :: fs) (congrArg (· + 1) h1) fun f hf => by
      rcases List.mem_cons.mp hf with rfl | hf
      · exact ⟨_, _, rfl⟩
      · exact h2 f hf
theorem kind_pairs {v : Value} {vs : List Value} {Q : SortKind → Shared → Prop} (hP : ∀ u ∈ v :: vs, ∃ p, PairAt s.heap u p) (h : Q (tuples' true) s) : wpAny (model prog w) A (keyKind' (v :: vs).toArray) Q E s := by
  rw [keyKind'_eq, List.mapM_toArray]
  refine wpAny_bind (wpAny_map (firsts_ok hP fun fs h1 h2 => ?_))
  cases fs with
  | nil => cases h1
  | cons f fs =>
    have hI := intsAre_map (f :: fs) h2
    rw [if_pos (by rw [List.all_toArray, List.all_map]; exact List.all_eq_true.mpr fun _ _ => rfl)]
    refine wpAny_bind (wpAny_rule ?_)
    have e : ((f :: fs).map some).toArray.filterMap id = (f :: fs).toArray := by
      rw [List.filterMap_toArray, List.filterMap_map]
      exact congrArg List.toArray (List.filterMap_some)
    rw [e, oneTypeOnly'_eq, List.mapM_toArray, mapM_typeOf_ints hI, map_pure, pure_bind]
    have hall : ((List.map (fun _ => Value.type "int") (f :: fs)).toArray.all fun x => x == Value.type "int") = true := by
      rw [List.all_toArray, List.all_map]; exact List.all_eq_true.mpr fun _ _ => rfl
    show wpAny _ _ (do return tuples' ((← pure (if ((List.map (fun _ => Value.type "int") (f :: fs)).toArray.all fun x => x == Value.type "int") = true then some (Value.type "int") else none)).any (· != .type "tuple"))) _ _ _
    rw [hall]
    exact wpAny_bind (wpAny_pure (wpAny_pure h))
theorem list_sort_pairs {a : Addr} {vs : List Value} {n : Nat} {P : Fin → Shared → Prop} (ho : s.heap.get? a = some (seqObj "list" vs.toArray n)) (hP : ∀ v ∈ vs, ∃ p, PairAt s.heap v p) (hPa : ∀ v ∈ vs, v ≠ .ref a) (h64 : vs.length < 64)
    (h : ∀ st' : SortSt, (arrOf st').Perm (pairsOf vs) → (∀ (i j : Nat) x y p q, i < j → (arrOf st')[i]? = some x → (arrOf st')[j]? = some y → PairAt s.heap x.1 p → PairAt s.heap y.1 q → p.1 ≤ q.1) → P (.done (.ret .none)) { s with heap := sortedHeap s.heap a vs ((arrOf st').map (·.2)) }) :
    wpAny (model prog w) A (Builtin.«list.sort» ⟨[.ref a], []⟩) P E s := by
  rw [list_sort_plain]
  have ha : a < s.heap.objs.size := Heap.lt_size ho
  refine wpAny_bind (listItems_at ho rfl ?_)
  refine wpAny_bind (listUpdate_at ho rfl ?_)
  obtain ⟨e1, ho1⟩ : ∃ e1, (s.heap.update a (Obj.mapSeq fun _ => #[])).get? a = some (seqObj "list" #[] e1) := ⟨_, get?_update_seq ho (fun _ => #[])⟩
  refine wpAny_bind (seqEpoch_at ho1 rfl ?_)
  refine wpAny_bind (wpAny_newTuple ?_)
  refine wpAny_bind (wpAny_newList ?_)
  refine wpAny_holding ?_
  generalize hh : ((s.heap.update a (Obj.mapSeq fun _ => #[])).push (seqObj "tuple" vs.toArray 0)).push (seqObj "list" #[] 0) = h6
  have ho6 : h6.get? a = some (seqObj "list" #[] e1) := by rw [← hh]; exact Heap.get?_push_of_some _ (Heap.get?_push_of_some _ ho1)
  have keep : ∀ (v : Value) (p : Int × Int), v ∈ vs → PairAt s.heap v p → PairAt h6 v p := fun v p hv ⟨b, t, u, m, e, g⟩ => by
    subst e
    refine ⟨b, t, u, m, rfl, ?_⟩
    rw [← hh]
    refine Heap.get?_push_of_some _ (Heap.get?_push_of_some _ ?_)
    rw [Heap.get?_update_other _ _ (fun z => hPa _ hv (congrArg Value.ref z.symm))]
    exact g
  show wpAny (model prog w) A _ P E { s with heap := h6 }
  have fin : ∀ st' : SortSt, (arrOf st').Perm (pairsOf vs) → (∀ (i j : Nat) x y p q, i < j → (arrOf st')[i]? = some x → (arrOf st')[j]? = some y → PairAt s.heap x.1 p → PairAt s.heap y.1 q → p.1 ≤ q.1) → failedOf st' = none →
      wpAny (model prog w) A (do
        let touched := (← seqEpoch a) != e1
        Builtin.List.listUpdate (.ref a) fun _ => (arrOf st').map (·.2)
        if let some e := failedOf st' then rule "list.sort.comparison-raised"; throw e
        if touched then rule "list.sort.modified"; raiseError "ValueError" "list modified during sort"
        ret .none) P E { s with heap := h6 } := fun st' a1 a2 a3 => by
    refine wpAny_bind (seqEpoch_at ho6 rfl ?_)
    refine wpAny_bind (listUpdate_at ho6 rfl ?_ (hsz2 := by refine Nat.le_trans (Nat.le_of_eq ((Array.size_map ..).trans (a1.size_eq.trans (pairsOf_size _)))) ?_; rw [sizeLine_eq]; omega))
    rw [a3]
    simp only [bne_self_eq_false, Bool.false_eq_true, if_false]
    have := h st' a1 a2
    unfold sortedHeap at this
    rw [hh] at this
    exact wpAny_pure this
  dsimp only
  match vs, h64, fin, keep, hP with
  | [], _, fin, _, _ =>
    refine wpAny_bind (wpAny_pure ?_)
    exact wpAny_bind (wpAny_pure (fin (SortSt.mk' general' (([] : List Value).toArray.zip ([] : List Value).toArray) #[] 7 none) (Array.Perm.refl _) (fun i j x y p q _ hi => absurd (show i < (pairsOf []).size from (Array.getElem?_eq_some_iff.mp hi).1) (by rw [pairsOf_size]; exact Nat.not_lt_zero _)) rfl))
  | [v], _, fin, _, _ =>
    refine wpAny_bind (wpAny_pure ?_)
    refine wpAny_bind (wpAny_pure (fin (SortSt.mk' general' ([v].toArray.zip [v].toArray) #[] 7 none) (Array.Perm.refl _) (fun i j x y p q hij hi hj => ?_) rfl))
    have h2 : j < (pairsOf [v]).size := (Array.getElem?_eq_some_iff.mp hj).1
    rw [pairsOf_size] at h2
    exact absurd (Nat.lt_of_le_of_lt (Nat.succ_le_of_lt hij) h2) (Nat.not_lt_of_le (Nat.succ_le_succ (Nat.zero_le i)))
  | v₁ :: v₂ :: rest, h64, fin, keep, hP =>
    have hP6 : ∀ u ∈ v₁ :: v₂ :: rest, ∃ p, PairAt h6 u p := fun u hu => let ⟨p, hp⟩ := hP u hu; ⟨p, keep u p hu hp⟩
    refine wpAny_bind ?_
    rw [if_neg (by simp)]
    refine kind_pairs (s := { s with heap := h6 }) hP6 ?_
    refine wpAny_bind (wpAny_mono (runs_ok (κ := pairKind h6) (kd := tuples' true) (s := { s with heap := h6 }) (a₀ := pairsOf (v₁ :: v₂ :: rest)) (st := SortSt.mk' (tuples' true) ((v₁ :: v₂ :: rest).toArray.zip (v₁ :: v₂ :: rest).toArray) #[] 7 none) pair_lt (fun x hx => ?_)
      (Q := fun _ st' => (arrOf st').Perm (pairsOf (v₁ :: v₂ :: rest)) ∧ failedOf st' = none ∧ SortedToK (pairKind h6) (arrOf st') (pairsOf (v₁ :: v₂ :: rest)).size)
      ⟨Array.Perm.refl _, rfl, rfl, rfl⟩ (by rw [pairsOf_size]; simp) (by rw [pairsOf_size]; exact h64) fun st' a1 a2 a3 => ⟨a1, a2, a3⟩) ?_ fun _ _ e => e)
    · rw [pairsOf_toList] at hx
      obtain ⟨p, hp⟩ := hP6 x.1 (mem_zip_self hx).2
      exact ⟨p, pair_key hp⟩
    · rintro ⟨⟨⟩, st'⟩ s' ⟨rfl, a1, a2, a3⟩
      refine fin st' a1 (fun i j x y p q hij hi hj hx hy => ?_) a2
      have mem : ∀ {i : Nat} {x : Keyed}, (arrOf st')[i]? = some x → x.1 ∈ v₁ :: v₂ :: rest := fun {i x} hi => by
        have := (Array.perm_iff_toList_perm.mp a1).mem_iff.mp (Array.mem_toList_iff.mpr (Array.mem_of_getElem? hi))
        rw [pairsOf_toList] at this
        exact (mem_zip_self this).2
      have key : ∀ {i : Nat} {x : Keyed} {p : Int × Int}, (arrOf st')[i]? = some x → PairAt s.heap x.1 p → KK (pairKind h6) (arrOf st') i = p := fun {i x p} hi hp => by
        unfold KK
        rw [hi]
        show ((pairKind h6).keyOf x.1).getD _ = p
        rw [pair_key (keep _ _ (mem hi) hp)]; rfl
      have := a3 i j (Nat.le_of_lt hij) (by rw [← a1.size_eq]; exact (Array.getElem?_eq_some_iff.mp hj).1)
      rw [key hi hx, key hj hy] at this
      have := pairLt_no.mp (show pairLt q p = false from this)
      omega
theorem sorted_pairs {l : Addr} {vs : List Value} {Q : Value → Shared → Prop} (hl : s.heap.IsList l vs.toArray) (hP : ∀ v ∈ vs, ∃ p, PairAt s.heap v p) (h64 : vs.length < 64)
    (h : ∀ out : List Value, out.Perm vs → (∀ (i j : Nat) x y p q, i < j → out[i]? = some x → out[j]? = some y → PairAt s.heap x p → PairAt s.heap y q → p.1 ≤ q.1) → Q (.ref (s.heap.objs.size + 1)) { s with heap := sortedAll s.heap vs out.toArray }) :
    wpAny (model prog w) A (call (.builtin "sorted") [.ref l]) Q E s := by
  refine Calls.call_function_entry kind_sorted plain_sorted entry_sorted (args_sorted1 _) ?_
  unfold Builtin.«sorted»
  refine wpAny_bind (m := checkCount "sorted" 1 1 _) (wpAny_pure ?_)
  refine wpAny_bind (collect_list hl ?_)
  refine wpAny_bind (wpAny_newList ?_)
  have hsz : ((s.heap.push (seqObj "list" #[] 0)).update s.heap.objs.size (Obj.mapSeq (· ++ vs.toArray))).objs.size = s.heap.objs.size + 1 := by
    rw [Heap.size_update, size_push']
  have hoL : (((s.heap.push (seqObj "list" #[] 0)).update s.heap.objs.size (Obj.mapSeq (· ++ vs.toArray))).push (seqObj "list" vs.toArray 0)).get? (s.heap.objs.size + 1) = some (seqObj "list" vs.toArray 0) := by
    rw [← hsz]; exact Heap.get?_push_size _ rfl
  show wpAny _ _ _ _ _ { s with heap := ((s.heap.push (seqObj "list" #[] 0)).update s.heap.objs.size (Obj.mapSeq (· ++ vs.toArray))).push (seqObj "list" vs.toArray 0) }
  rw [hsz]
  have old : ∀ b o, s.heap.get? b = some o → (((s.heap.push (seqObj "list" #[] 0)).update s.heap.objs.size (Obj.mapSeq (· ++ vs.toArray))).push (seqObj "list" vs.toArray 0)).get? b = some o := fun b o e => by
    refine Heap.get?_push_of_some _ ?_
    rw [Heap.get?_update_other _ _ (Nat.ne_of_gt (Heap.lt_size e))]
    exact Heap.get?_push_of_some _ e
  have hPa : ∀ v ∈ vs, v ≠ .ref (s.heap.objs.size + 1) := fun v hv z => by
    obtain ⟨p, a, t, u, n, e, g⟩ := hP v hv
    rw [z] at e; cases e
    exact absurd (Heap.lt_size g) (Nat.not_lt_of_le (Nat.le_succ _))
  refine wpAny_bind (wpAny_holding (wpAny_call_entry slot_list_sort ⟨_, hoL, rfl⟩ entry_list_sort (list_sort_pairs hoL (fun v hv => let ⟨p, x⟩ := hP v hv; ⟨p, x.keep old⟩) hPa h64 fun st' a1 a2 => ⟨_, rfl, ?_⟩) (args_list_sort _)))
  have hl' : (arrOf st').toList.Perm (vs.zip vs) := by rw [← pairsOf_toList]; exact Array.perm_iff_toList_perm.mp a1
  have eq1 : ((arrOf st').map (·.2)) = ((arrOf st').toList.map (·.1)).toArray := by
    apply Array.toList_inj.mp
    rw [Array.toList_map, List.toList_toArray]
    exact List.map_congr_left fun p hp => ((mem_zip_self (hl'.mem_iff.mp hp)).1).symm
  refine wpAny_pure ⟨_, rfl, ?_⟩
  rw [eq1]
  refine h ((arrOf st').toList.map (·.1)) ?_ fun i j x y p q hij hi hj hx hy => ?_
  · have := hl'.map (·.1)
    rw [List.map_fst_zip (Nat.le_refl _)] at this; exact this
  · rw [List.getElem?_map] at hi hj
    obtain ⟨x', hi', rfl⟩ := Option.map_eq_some_iff.mp hi
    obtain ⟨y', hj', rfl⟩ := Option.map_eq_some_iff.mp hj
    rw [Array.getElem?_toList] at hi' hj'
    exact a2 i j x' y' p q hij hi' hj' (hx.keep old) (hy.keep old)
end

theorem VRels.inv {h : Heap} {x : V} {l : List V} {vs : List Value} (r : VRels h (x :: l) vs) : ∃ v r', vs = v :: r' ∧ VRel h x v ∧ VRels h l r' := r
theorem pair_at {h : Heap} {v : Value} {p : Int × Int} (r : VRel h (pairV p) v) : PairAt h v p := by
  obtain ⟨a, vs, n, rfl, e, _, ra⟩ := r
  obtain ⟨v1, r1, e1, ⟨t, rfl⟩, rb⟩ := VRels.inv ra
  obtain ⟨v2, r2, rfl, ⟨u, rfl⟩, rc⟩ := VRels.inv rb
  cases (show r2 = [] from rc)
  refine ⟨a, t, u, n, rfl, ?_⟩
  rw [e, show vs = #[.int p.1 t, .int p.2 u] from Array.toList_inj.mp e1]
theorem pairs_perm {h : Heap} {vs out : List Value} (hp : vs.Perm out) : ∀ {ps : List (Int × Int)}, VRels h (ps.map pairV) vs → ∃ ps' : List (Int × Int), ps'.Perm ps ∧ VRels h (ps'.map pairV) out := by
  induction hp with
  | nil => intro ps r; exact ⟨ps, .refl _, r⟩
  | cons x _ ih =>
    intro ps r
    cases ps with
    | nil => cases (show _ = [] from r)
    | cons p ps =>
      obtain ⟨v, r', e, r1, r2⟩ := VRels.inv r
      cases e
      obtain ⟨ps', h1, h2⟩ := ih r2
      exact ⟨p :: ps', h1.cons p, .cons r1 h2⟩
  | swap x y l =>
    intro ps r
    cases ps with
    | nil => cases (show _ = [] from r)
    | cons p ps =>
      obtain ⟨v, r', e, r1, r2⟩ := VRels.inv r
      cases e
      cases ps with
      | nil => cases (show _ = [] from r2)
      | cons q ps =>
        obtain ⟨v, r', e, r3, r4⟩ := VRels.inv r2
        cases e
        exact ⟨q :: p :: ps, .swap p q ps, .cons r3 (.cons r1 r4)⟩
  | trans _ _ ih1 ih2 =>
    intro ps r
    obtain ⟨ps1, h1, r1⟩ := ih1 r
    obtain ⟨ps2, h2, r2⟩ := ih2 r1
    exact ⟨ps2, h2.trans h1, r2⟩
theorem pairs_all {h : Heap} : ∀ {ps : List (Int × Int)} {vs : List Value}, VRels h (ps.map pairV) vs → ∀ v ∈ vs, ∃ p, PairAt h v p
  | [], _, r, v, hv => by cases (show _ = [] from r); cases hv
  | p :: ps, _, r, v, hv => by
    obtain ⟨u, r', rfl, r1, r2⟩ := VRels.inv r
    rcases List.mem_cons.mp hv with rfl | hv
    · exact ⟨p, pair_at r1⟩
    · exact pairs_all r2 v hv
section
variable {prog : Program} {w : World} {B : Shared} {vars : List Str} {S : Spec} {n : Nat} {G : Gl} {kd : Str → Option NameKind}
theorem SoundE.sortedP {p pos : Pos} {e : Expr} {a : X} {mg mb} (T : TopOK B G mg mb) (hkx : kd "sorted" = some .globalImplicit) (h : SoundE prog w B vars S n kd e a) (hs : starred e = false := by rfl) : SoundE prog w B vars S n kd (.Call (.Name "sorted" p) [e] [] pos) (.sortedP a) := by
  refine SoundE.call1 T (f := .builtin "sorted") (by decide +kernel) hkx hs h (.inl ⟨_, rfl⟩) (fun va σ₁ Q => ∃ p m l ps, va = .ref p ∧ σ₁ p = some (.list m l) ∧ l.length < 64 ∧ l = List.map pairV ps ∧ ∀ ps' : List (Int × Int), ps'.Perm ps → ps'.Pairwise (fun (a b : Int × Int) => a.1 ≤ b.1) → fresh σ₁ (.list true (ps'.map pairV)) Q) (fun _ _ _ q => q) fun env A ρ y v σ₁ s₁ Q g rv M q => ?_
  obtain ⟨q, m, l, ps, rfl, hp, hz, rfl, q⟩ := q
  cases (rv : v = .ref _)
  obtain ⟨vs, ⟨hpl, _⟩, z, rs⟩ := M.core.objs _ _ hp
  have hlen := rs.length
  refine sorted_pairs (vs := vs.toList) (by simpa using hpl) (pairs_all rs) (by rw [hlen]; exact hz) fun out h1 h2 => ?_
  have hI1 : s₁.heap.get? (s₁.heap.objs.size + 1) = none := get_size1 _
  obtain ⟨c, hc⟩ := sortedAll_at s₁.heap vs.toList out.toArray
  obtain ⟨ps', hps, rs'⟩ := pairs_perm h1.symm rs
  have hl2 : out.length ≤ 16777216 := by rw [h1.length_eq, hlen]; exact Nat.le_trans (Nat.le_of_lt hz) (by decide)
  refine alloc_list (tk := s₁.toks) (vs := out) M rs' hl2 (q ps' hps ?_) hI1 (fun b o x => sortedAll_old x) ⟨c, hc⟩
  rw [List.pairwise_iff_getElem]
  intro i j hi hj hij
  have at_ : ∀ {i : Nat} (hi : i < ps'.length), ∃ x, out[i]? = some x ∧ PairAt s₁.heap x ps'[i] := fun {i} hi => by
    obtain ⟨x, e, r⟩ := rs'.get (i := i) (x := pairV ps'[i]) (by rw [List.getElem?_map, List.getElem?_eq_getElem hi]; rfl)
    exact ⟨x, e, pair_at r⟩
  obtain ⟨x, e1, p1⟩ := at_ hi
  obtain ⟨y, e2, p2⟩ := at_ hj
  exact h2 i j x y _ _ hij e1 e2 p1 p2
end
end Mine

namespace Mine
open PySem PyProof.Rows

/-! A check of a mini-Python text against the program's own text: once true, the text is sound. -/
abbrev Kd := Str → Option NameKind
abbrev CkE := Kd → Expr → X → Bool
/-- an expression, laid out flat -/
structure EV where
  tag : Nat
  s : Str
  p : Pos
  k : Nat
  c : Const
  a : Expr
  b : Expr
  o1 : Option Expr
  o2 : Option Expr
  o3 : Option Expr
  es : List Expr
  os : List (Option Expr)
  uop : UnaryOp
  bop : Operator
  lop : BoolOp
  cops : List CmpOp
  gens : List Comprehension
  sc : Scope
  kws : List Keyword
noncomputable def ev0 (e : Expr) : EV := ⟨0, ⟨#[]⟩, ⟨0, 0, 0, 0⟩, 0, .none, e, e, none, none, none, [], [], .Not, .Add, .And, [], [], ⟨.function, [], false, false, []⟩, []⟩
noncomputable def view (e : Expr) : EV := match e with
  | .Name x p => { ev0 e with tag := 1, s := x, p := p }
  | .Constant c k p => { ev0 e with tag := 2, c := c, k := k, p := p }
  | .UnaryOp op x p => { ev0 e with tag := 3, uop := op, a := x, p := p }
  | .BinOp l op r p => { ev0 e with tag := 4, a := l, bop := op, b := r, p := p }
  | .Compare l ops rs p => { ev0 e with tag := 5, a := l, cops := ops, es := rs, p := p }
  | .BoolOp op es p => { ev0 e with tag := 6, lop := op, es := es, p := p }
  | .Subscript l r p => { ev0 e with tag := 7, a := l, b := r, p := p }
  | .Slice lo hi st p => { ev0 e with tag := 8, o1 := lo, o2 := hi, o3 := st, p := p }
  | .List es p => { ev0 e with tag := 9, es := es, p := p }
  | .Tuple es k p => { ev0 e with tag := 10, es := es, k := k, p := p }
  | .Dict ks vs p => { ev0 e with tag := 11, os := ks, es := vs, p := p }
  | .Call g es kws p => { ev0 e with tag := 12, a := g, es := es, kws := kws, p := p }
  | .Attribute x y p => { ev0 e with tag := 13, a := x, s := y, p := p }
  | .ListComp elt gens sc p => { ev0 e with tag := 14, a := elt, gens := gens, sc := sc, p := p }
  | _ => ev0 e
noncomputable def table (v : EV) : List Expr := [.Name v.s v.p, .Constant v.c v.k v.p, .UnaryOp v.uop v.a v.p, .BinOp v.a v.bop v.b v.p, .Compare v.a v.cops v.es v.p, .BoolOp v.lop v.es v.p, .Subscript v.a v.b v.p,
  .Slice v.o1 v.o2 v.o3 v.p, .List v.es v.p, .Tuple v.es v.k v.p, .Dict v.os v.es v.p, .Call v.a v.es v.kws v.p, .Attribute v.a v.s v.p, .ListComp v.a v.gens v.sc v.p]
theorem view_ok (e : Expr) : (view e).tag = 0 ∨ (table (view e))[(view e).tag - 1]? = some e := by
  cases e <;> first | exact .inl rfl | exact .inr rfl
theorem view_at {e x : Expr} {k : Nat} (h : Nat.beq (view e).tag (k + 1) = true) (hx : (table (view e))[k]? = some x) : e = x := by
  have h := Nat.eq_of_beq_eq_true h
  rcases view_ok e with h0 | h0
  · rw [h0] at h; cases h
  · rw [h] at h0
    exact Option.some.inj (h0.symm.trans hx)
noncomputable def isT (k : Nat) (e : Expr) : Bool := Nat.beq (view e).tag k
/-- a statement, laid out flat -/
structure SV where
  tag : Nat
  p : Pos
  a : Expr
  b : Expr
  o : Option Expr
  es : List Expr
  ss : List Stmt
  ts : List Stmt
noncomputable def e0 : Expr := .Name ⟨#[]⟩ ⟨0, 0, 0, 0⟩
noncomputable def sv0 : SV := ⟨0, ⟨0, 0, 0, 0⟩, e0, e0, none, [], [], []⟩
noncomputable def sview (s : Stmt) : SV := match s with
  | .Expr e p => { sv0 with tag := 1, a := e, p := p }
  | .Assign ts e p => { sv0 with tag := 2, es := ts, a := e, p := p }
  | .Return o p => { sv0 with tag := 3, o := o, p := p }
  | .If e a b p => { sv0 with tag := 4, a := e, ss := a, ts := b, p := p }
  | .For t i a b p => { sv0 with tag := 5, a := t, b := i, ss := a, ts := b, p := p }
  | .While e a b p => { sv0 with tag := 6, a := e, ss := a, ts := b, p := p }
  | _ => sv0
noncomputable def stable (v : SV) : List Stmt := [.Expr v.a v.p, .Assign v.es v.a v.p, .Return v.o v.p, .If v.a v.ss v.ts v.p, .For v.a v.b v.ss v.ts v.p, .While v.a v.ss v.ts v.p]
theorem sview_ok (s : Stmt) : (sview s).tag = 0 ∨ (stable (sview s))[(sview s).tag - 1]? = some s := by
  cases s <;> first | exact .inl rfl | exact .inr rfl
theorem sview_at {s x : Stmt} {k : Nat} (h : Nat.beq (sview s).tag (k + 1) = true) (hx : (stable (sview s))[k]? = some x) : s = x := by
  have h := Nat.eq_of_beq_eq_true h
  rcases sview_ok s with h0 | h0
  · rw [h0] at h; cases h
  · rw [h] at h0
    exact Option.some.inj (h0.symm.trans hx)
noncomputable def isS (k : Nat) (s : Stmt) : Bool := Nat.beq (sview s).tag k
theorem and2 {a b : Bool} (h : (a && b) = true) : a = true ∧ b = true := Bool.and_eq_true_iff.mp h
theorem not_of {b : Bool} (h : (!b) = true) : b = false := by cases b with | false => rfl | true => cases h
noncomputable def isGl (kd : Kd) (x : Str) : Bool := decide (kd x = some .globalImplicit)
noncomputable def isLc (kd : Kd) (x : Str) : Bool := decide (kd x = some .local) || decide (kd x = some .cell)
noncomputable def is1 (l : List Expr) (g : Expr → Bool) : Bool := match l with
  | [] => false
  | e :: r => r.isEmpty && g e
noncomputable def is2 (l : List Expr) (g : Expr → Expr → Bool) : Bool := match l with
  | [] => false
  | e :: r => is1 r (g e)
theorem nil_of {α : Type} {l : List α} (h : l.isEmpty = true) : l = [] := by cases l with | nil => rfl | cons => cases h
theorem is1_of {l : List Expr} {g : Expr → Bool} (h : is1 l g = true) : ∃ e, l = [e] ∧ g e = true := by
  cases l with
  | nil => cases h
  | cons e r =>
    obtain ⟨h1, h2⟩ := and2 h
    rw [nil_of h1]; exact ⟨e, rfl, h2⟩
theorem is2_of {l : List Expr} {g : Expr → Expr → Bool} (h : is2 l g = true) : ∃ e e', l = [e, e'] ∧ g e e' = true := by
  cases l with
  | nil => cases h
  | cons e r =>
    obtain ⟨e', h1, h2⟩ := is1_of (g := g e) h
    rw [h1]; exact ⟨e, e', rfl, h2⟩
noncomputable def BOp.real : BOp → Operator
  | .add => .Add | .sub => .Sub | .mul => .Mult | .fdiv => .FloorDiv | .mod => .Mod
noncomputable def V.const : V → Const
  | .none => .none
  | .bool b => .bool b
  | .int i => .int i
  | .str x => .str x
  | .tup _ => .ellipsis
  | .rng _ _ => .ellipsis
  | .ref _ => .ellipsis
noncomputable def isRef : V → Bool
  | .none => false
  | .bool _ => false
  | .int _ => false
  | .str _ => false
  | .tup _ => true
  | .rng _ _ => true
  | .ref _ => true
noncomputable def ckVar (vars : List Str) (kd : Kd) (i : Nat) (e : Expr) : Bool :=
  isT 1 e && (decide (vars[i]? = some (view e).s) && ((isLc kd (view e).s || decide (kd (view e).s = some .free)) && (!((view e).s == ("__debug__" : Str)) && !((view e).s == ("__classdict__" : Str)))))
noncomputable def ckNeg (v : V) (e : Expr) : Bool := isT 3 e && (decide ((view e).uop = .USub) && (isT 2 (view e).a && (match v with
  | .int j => decide ((view (view e).a).c = .int (-j))
  | _ => false)))
noncomputable def ckCst (v : V) (e : Expr) : Bool := (isT 2 e && (!isRef v && decide ((view e).c = v.const))) || ckNeg v e
noncomputable def ckGl (cs : List (Str × V)) (kd : Kd) (x : Str) (v : V) (e : Expr) : Bool :=
  isT 1 e && ((view e).s == x && (isGl kd x && (!(x == ("__debug__" : Str)) && (imm v && (!isRef v && (match cs.lookup x with | some u => !isRef u && decide (u.const = v.const) | none => false))))))
noncomputable def ckBin (f : CkE) (kd : Kd) (o : BOp) (a b : X) (e : Expr) : Bool := isT 4 e && (decide ((view e).bop = o.real) && (f kd (view e).a a && f kd (view e).b b))
noncomputable def ckCmp (f : CkE) (kd : Kd) (o : COp) (a b : X) (e : Expr) : Bool := isT 5 e && (decide ((view e).cops = [o.real]) && (is1 (view e).es fun r => notSet r && (f kd (view e).a a && f kd r b)))
noncomputable def ckCmp2 (f : CkE) (kd : Kd) (o p : COp) (a b c : X) (e : Expr) : Bool := isT 5 e && (decide ((view e).cops = [o.real, p.real]) && (is2 (view e).es fun r t => notSet t && (f kd (view e).a a && (f kd r b && f kd t c))))
noncomputable def X.two (b : Bool) : X → Option (X × X)
  | .and x y => if b then some (x, y) else none
  | .or x y => if b then none else some (x, y)
  | _ => none
noncomputable def ckBs (f : CkE) (kd : Kd) (b : Bool) : List Expr → X → Bool
  | [], _ => false
  | e :: es, x => match es.isEmpty with
    | true => f kd e x
    | false => match x.two b with
      | some (y, z) => f kd e y && ckBs f kd b es z
      | none => false
noncomputable def ckBool (f : CkE) (kd : Kd) (x : X) (e : Expr) : Bool := isT 6 e && ckBs f kd (decide ((view e).lop = .And)) (view e).es x
noncomputable def ckNot (f : CkE) (kd : Kd) (a : X) (e : Expr) : Bool := isT 3 e && (decide ((view e).uop = .Not) && f kd (view e).a a)
noncomputable def ckSub (f : CkE) (kd : Kd) (a b : X) (e : Expr) : Bool := isT 7 e && (f kd (view e).a a && f kd (view e).b b)
noncomputable def isNoneX : X → Bool
  | .cst v => decide (v.const = .none)
  | _ => false
noncomputable def ckEnd (f : CkE) (kd : Kd) (o : Option Expr) (x : X) : Bool := match o with
  | none => isNoneX x
  | some e => f kd e x
noncomputable def ckSlc (f : CkE) (kd : Kd) (a b c : X) (e : Expr) : Bool :=
  isT 7 e && (isT 8 (view e).b && ((view (view e).b).o3.isNone && (f kd (view e).a a && (ckEnd f kd (view (view e).b).o1 b && ckEnd f kd (view (view e).b).o2 c))))
noncomputable def ckEs (f : CkE) (kd : Kd) : List Expr → List X → Bool
  | [], xs => xs.isEmpty
  | e :: es, xs => match xs with
    | [] => false
    | x :: xs => !starred e && (f kd e x && ckEs f kd es xs)
noncomputable def ckList (f : CkE) (kd : Kd) (xs : List X) (e : Expr) : Bool := isT 9 e && (decide ((view e).es.length ≤ 1000) && ckEs f kd (view e).es xs)
noncomputable def ckTup (f : CkE) (kd : Kd) (xs : List X) (e : Expr) : Bool := isT 10 e && (decide ((view e).es.length ≤ 1000) && ckEs f kd (view e).es xs)
noncomputable def ckDict0 (e : Expr) : Bool := isT 11 e && ((view e).os.isEmpty && (view e).es.isEmpty)
noncomputable def ckDict1 (f : CkE) (kd : Kd) (a b : X) (e : Expr) : Bool := isT 11 e && (is1 (view e).es fun v => match (view e).os with
  | [] => false
  | o :: r => r.isEmpty && (match o with
    | none => false
    | some k => f kd k a && f kd v b))
/-- a call by name -/
noncomputable def nm (e : Expr) (kd : Kd) (x : Str) : Bool := isT 12 e && ((view e).kws.isEmpty && (isT 1 (view e).a && ((view (view e).a).s == x && isGl kd x)))
noncomputable def ckC1 (f : CkE) (kd : Kd) (x : Str) (a : X) (e : Expr) : Bool := nm e kd x && is1 (view e).es fun y => !starred y && f kd y a
noncomputable def ckC2 (f : CkE) (kd : Kd) (x : Str) (a b : X) (e : Expr) : Bool := nm e kd x && is2 (view e).es fun y z => !starred y && (!starred z && (f kd y a && f kd z b))
noncomputable def ckIsi (f : CkE) (kd : Kd) (a : X) (t : Ty) (e : Expr) : Bool := nm e kd "isinstance" && is2 (view e).es fun y z => isT 1 z && ((view z).s == Str.ofString t.name && (isGl kd (Str.ofString t.name) && (!starred y && f kd y a)))
/-- a method's call -/
noncomputable def mt (e : Expr) (x : Str) : Bool := isT 12 e && ((view e).kws.isEmpty && (isT 13 (view e).a && ((view (view e).a).s == x && (plainBase (view (view e).a).a && ((view (view e).a).p.endLine == (view e).p.line)))))
noncomputable def ckM1 (f : CkE) (kd : Kd) (x : Str) (a b : X) (e : Expr) : Bool := mt e x && is1 (view e).es fun y => !starred y && (f kd (view (view e).a).a a && f kd y b)
noncomputable def ckM2 (f : CkE) (kd : Kd) (x : Str) (a b c : X) (e : Expr) : Bool := mt e x && is2 (view e).es fun y z => !starred y && (!starred z && (f kd (view (view e).a).a a && (f kd y b && f kd z c)))
noncomputable def ckM0 (f : CkE) (kd : Kd) (x : Str) (a : X) (e : Expr) : Bool := mt e x && ((view e).es.isEmpty && f kd (view (view e).a).a a)
noncomputable def ckCall (ids : List (Str × Nat)) (f : CkE) (kd : Kd) (i : Nat) (xs : List X) (e : Expr) : Bool :=
  isT 12 e && ((view e).kws.isEmpty && (isT 1 (view e).a && (decide (ids.lookup (view (view e).a).s = some i) && (isGl kd (view (view e).a).s && (!((view (view e).a).s == ("__debug__" : Str)) && (!(view e).es.isEmpty && ckEs f kd (view e).es xs))))))
/-- targets -/
noncomputable def ckNames (vars : List Str) (kd : Kd) : List Expr → List Nat → Bool
  | [], is => is.isEmpty
  | e :: es, is => match is with
    | [] => false
    | i :: is => isT 1 e && (decide (vars[i]? = some (view e).s) && (isLc kd (view e).s && ckNames vars kd es is))
noncomputable def ckTgt (vars : List Str) (kd : Kd) (e : Expr) (t : Tgt) : Bool := match t with
  | .one i => isT 1 e && (decide (vars[i]? = some (view e).s) && isLc kd (view e).s)
  | .many is => isT 10 e && ckNames vars kd (view e).es is
noncomputable def ckScope (vars : List Str) (kd : Kd) (scope : Scope) (tg : Tgt) : Bool :=
  decide (scope.kind = .function) && (decide ((scope.names.map (·.1)).Nodup) && (scope.names.all (fun y => !(decide (y.2 = .cell)) && (!(decide (y.2 = .free)) || (decide (kd y.1 = some .cell) || decide (kd y.1 = some .free)))) &&
    (tg.ids.all (fun i => vars[i]?.any fun x => decide (scope.names.lookup x = some .local)) &&
    (List.range vars.length).all (fun i => vars[i]?.all fun x => !(decide (scope.names.lookup x = some .local)) || decide (i ∈ tg.ids)))))
noncomputable def gen1 (e : Expr) (g : Comprehension → Bool) : Bool := isT 14 e && (match (view e).gens with
  | [] => false
  | c :: r => r.isEmpty && (decide (c.is_async = 0) && g c))
noncomputable def ckComp (vars : List Str) (f : CkE) (kd : Kd) (tg : Tgt) (a b : X) (e : Expr) : Bool :=
  gen1 e fun c => c.ifs.isEmpty && (ckScope vars kd (view e).sc tg && (notSet c.iter && (f kd c.iter a && (ckTgt vars (kdIn (view e).sc kd) c.target tg && f (kdIn (view e).sc kd) (view e).a b))))
noncomputable def ckCompIf (vars : List Str) (f : CkE) (kd : Kd) (tg : Tgt) (a c b : X) (e : Expr) : Bool :=
  gen1 e fun g => is1 g.ifs fun t => ckScope vars kd (view e).sc tg && (notSet g.iter && (f kd g.iter a && (ckTgt vars (kdIn (view e).sc kd) g.target tg && (f (kdIn (view e).sc kd) t c && f (kdIn (view e).sc kd) (view e).a b))))
noncomputable def ckX (vars : List Str) (cs : List (Str × V)) (ids : List (Str × Nat)) (f : CkE) (kd : Kd) (e : Expr) : X → Bool
  | .var i => ckVar vars kd i e
  | .cst v => ckCst v e
  | .gl y v => ckGl cs kd y v e
  | .bin o a b => ckBin f kd o a b e
  | .cmp o a b => ckCmp f kd o a b e
  | .cmp2 o p a b c => ckCmp2 f kd o p a b c e
  | .and a b => ckBool f kd (.and a b) e
  | .or a b => ckBool f kd (.or a b) e
  | .not a => ckNot f kd a e
  | .sub a b => ckSub f kd a b e
  | .slc a b c => ckSlc f kd a b c e
  | .rev _ => false
  | .list xs => ckList f kd xs e
  | .tup xs => ckTup f kd xs e
  | .dict0 => ckDict0 e
  | .dict1 a b => ckDict1 f kd a b e
  | .comp t a b => ckComp vars f kd t a b e
  | .compIf t a c b => ckCompIf vars f kd t a c b e
  | .call i xs => ckCall ids f kd i xs e
  | .len a => ckC1 f kd "len" a e
  | .listOf a => ckC1 f kd "list" a e
  | .dictOf _ => false
  | .tupleOf _ => false
  | .isi a t => ckIsi f kd a t e
  | .max2 a b => ckC2 f kd "max" a b e
  | .minOf a => ckC1 f kd "min" a e
  | .sorted a => ckC1 f kd "sorted" a e
  | .sortedP a => ckC1 f kd "sorted" a e
  | .rng1 a => ckC1 f kd "range" a e
  | .rng2 _ _ => false
  | .append a b => ckM1 f kd "append" a b e
  | .insert0 _ _ => false
  | .pop a => ckM0 f kd "pop" a e
  | .get1 _ _ => false
  | .get2 a b c => ckM2 f kd "get" a b c e
noncomputable def ckE (vars : List Str) (cs : List (Str × V)) (ids : List (Str × Nat)) : Nat → CkE
  | 0 => fun _ _ _ => false
  | n + 1 => fun kd e x => ckX vars cs ids (ckE vars cs ids n) kd e x
abbrev CkS := Stmt → Mine.S → Bool
noncomputable def ckSs (g : CkS) : List Stmt → List Mine.S → Bool
  | [], xs => xs.isEmpty
  | s :: ss, xs => match xs with
    | [] => false
    | x :: xs => g s x && ckSs g ss xs
noncomputable def ckExprS (f : CkE) (kd : Kd) (a : X) (s : Stmt) : Bool := isS 1 s && (notComp (sview s).a && f kd (sview s).a a)
noncomputable def ckAsgV (vars : List Str) (f : CkE) (kd : Kd) (a : X) (e : Expr) : Bool :=
  match a with
  | .comp tg it b => ckComp vars f kd tg it b e
  | .compIf tg it c b => ckCompIf vars f kd tg it c b e
  | _ => false
noncomputable def ckAsg (vars : List Str) (f : CkE) (kd : Kd) (t : Tgt) (a : X) (s : Stmt) : Bool := isS 2 s && is1 (sview s).es fun g => match t with
  | .one i => isT 1 g && (decide (vars[i]? = some (view g).s) && (isLc kd (view g).s && (ckAsgV vars f kd a (sview s).a || (notComp (sview s).a && f kd (sview s).a a))))
  | .many is => isT 10 g && (ckNames vars kd (view g).es is && (notComp (sview s).a && (notTupE (sview s).a && f kd (sview s).a a)))
noncomputable def ckSet (f : CkE) (kd : Kd) (a b c : X) (s : Stmt) : Bool := isS 2 s && is1 (sview s).es fun g => isT 7 g && (notComp (sview s).a && (f kd (view g).a a && (f kd (view g).b b && f kd (sview s).a c)))
noncomputable def ckRet (f : CkE) (kd : Kd) (a : X) (s : Stmt) : Bool := isS 3 s && (match (sview s).o with
  | some e => f kd e a
  | none => false)
noncomputable def ckIf (f : CkE) (g : CkS) (kd : Kd) (c : X) (xs ys : List Mine.S) (s : Stmt) : Bool := isS 4 s && (f kd (sview s).a c && (ckSs g (sview s).ss xs && ckSs g (sview s).ts ys))
noncomputable def ckFor (vars : List Str) (f : CkE) (g : CkS) (kd : Kd) (t : Tgt) (a : X) (xs : List Mine.S) (s : Stmt) : Bool := isS 5 s && ((sview s).ts.isEmpty && (ckTgt vars kd (sview s).a t && (notSet (sview s).b && (f kd (sview s).b a && ckSs g (sview s).ss xs))))
noncomputable def ckEnum (vars : List Str) (f : CkE) (g : CkS) (kd : Kd) (t : Tgt) (a : X) (xs : List Mine.S) (s : Stmt) : Bool := isS 5 s && ((sview s).ts.isEmpty && (ckTgt vars kd (sview s).a t && (isT 10 (sview s).a && (ckC1 f kd "enumerate" a (sview s).b && ckSs g (sview s).ss xs))))
noncomputable def ckWhile (f : CkE) (g : CkS) (kd : Kd) (c : X) (xs : List Mine.S) (s : Stmt) : Bool := isS 6 s && ((sview s).ts.isEmpty && (f kd (sview s).a c && ckSs g (sview s).ss xs))
noncomputable def ckY (vars : List Str) (f : CkE) (kd : Kd) (g : CkS) (s : Stmt) : Mine.S → Bool
  | .expr a => ckExprS f kd a s
  | .asg t a => ckAsg vars f kd t a s
  | .setItem a b c => ckSet f kd a b c s
  | .ret a => ckRet f kd a s
  | .ite c xs ys => ckIf f g kd c xs ys s
  | .for t a xs => ckFor vars f g kd t a xs s
  | .forEnum t a xs => ckEnum vars f g kd t a xs s
  | .while c xs => ckWhile f g kd c xs s
  | .stop => true
noncomputable def ckS (vars : List Str) (f : CkE) (kd : Kd) : Nat → CkS
  | 0 => fun _ _ => false
  | n + 1 => fun s x => ckY vars f kd (ckS vars f kd n) s x
theorem two_of {b : Bool} {x : X} {q : X × X} (h : x.two b = some q) : x = if b = true then .and q.1 q.2 else .or q.1 q.2 := by
  cases x with
  | and y z =>
    cases b with
    | true => cases (h : some (y, z) = some q); rfl
    | false => cases (h : none = some q)
  | or y z =>
    cases b with
    | true => cases (h : none = some q)
    | false => cases (h : some (y, z) = some q); rfl
  | _ => cases h
theorem isNoneX_of {x : X} (h : isNoneX x = true) : x = .cst .none := by
  cases x with
  | cst v => cases v with
    | none => rfl
    | _ => cases h
  | _ => cases h
section
variable {prog : Program} {w : World} {B : Shared} {vars : List Str} {S : Spec} {n : Nat} {G : Gl} {kd : Kd} {e : Expr}

theorem isGl_of {x : Str} (h : isGl kd x = true) : kd x = some .globalImplicit := of_decide_eq_true h
theorem isLc_of {x : Str} (h : isLc kd x = true) : kd x = some .local ∨ kd x = some .cell := by
  rcases Bool.or_eq_true_iff.mp h with h | h
  · exact .inl (of_decide_eq_true h)
  · exact .inr (of_decide_eq_true h)
theorem sameOp_of {o : BOp} : (o, o.real) ∈ [(BOp.add, Operator.Add), (.sub, .Sub), (.mul, .Mult), (.fdiv, .FloorDiv), (.mod, .Mod)] := by
  cases o with
  | add => exact .head _
  | sub => exact .tail _ (.head _)
  | mul => exact .tail _ (.tail _ (.head _))
  | fdiv => exact .tail _ (.tail _ (.tail _ (.head _)))
  | mod => exact .tail _ (.tail _ (.tail _ (.tail _ (.head _))))
theorem const_inj {u v : V} (hu : (!isRef u) = true) (hv : (!isRef v) = true) (h : u.const = v.const) : u = v := by
  cases u with
  | none => cases v with | none => rfl | tup => cases hv | rng => cases hv | ref => cases hv | _ => cases h
  | bool => cases v with | bool => cases h; rfl | tup => cases hv | rng => cases hv | ref => cases hv | _ => cases h
  | int => cases v with | int => cases h; rfl | tup => cases hv | rng => cases hv | ref => cases hv | _ => cases h
  | str => cases v with | str => cases h; rfl | tup => cases hv | rng => cases hv | ref => cases hv | _ => cases h
  | _ => cases hu
/-- what the check of an expression says -/
noncomputable def OKE (prog : Program) (w : World) (B : Shared) (vars : List Str) (S : Spec) (n : Nat) (f : CkE) : Prop := ∀ kd e x, f kd e x = true → SoundE prog w B vars S n kd e x
theorem ckVar_ok {i : Nat} (h : ckVar vars kd i e = true) : SoundE prog w B vars S n kd e (.var i) := by
  obtain ⟨h0, h⟩ := and2 h
  obtain ⟨h1, h⟩ := and2 h
  obtain ⟨h2, h⟩ := and2 h
  obtain ⟨h3, h4⟩ := and2 h
  rw [view_at h0 rfl]
  refine .var (of_decide_eq_true h1) ?_ (not_of h3) (not_of h4)
  rcases Bool.or_eq_true_iff.mp h2 with h2 | h2
  · rcases isLc_of h2 with h2 | h2
    · exact .inl h2
    · exact .inr (.inl h2)
  · exact .inr (.inr (of_decide_eq_true h2))
theorem ckNeg_ok {v : V} (h : ckNeg v e = true) : ∃ i k p q, v = .int (-i) ∧ e = .UnaryOp .USub (.Constant (.int i) k p) q := by
  obtain ⟨h0, h⟩ := and2 h
  obtain ⟨h1, h⟩ := and2 h
  obtain ⟨h2, h⟩ := and2 h
  cases v with
  | int j =>
    refine ⟨-j, (view (view e).a).k, (view (view e).a).p, (view e).p, by rw [Int.neg_neg], ?_⟩
    refine (view_at h0 rfl).trans ?_
    rw [of_decide_eq_true h1]
    congr 1
    refine (view_at h2 rfl).trans ?_
    rw [of_decide_eq_true h]
  | _ => cases h
theorem ckCst_ok {v : V} (h : ckCst v e = true) : SoundE prog w B vars S n kd e (.cst v) := by
  rcases Bool.or_eq_true_iff.mp h with h | h
  · obtain ⟨h0, h⟩ := and2 h
    obtain ⟨h1, h⟩ := and2 h
    rw [view_at h0 rfl, of_decide_eq_true h]
    cases v with
    | none => exact .cNone
    | bool => exact .cBool
    | int => exact .cInt
    | str => exact .cStr
    | _ => cases h1
  · obtain ⟨i, k, p, q, rfl, rfl⟩ := ckNeg_ok h
    exact .cNeg
theorem ckGl_ok {cs : List (Str × V)} {mg mb} (T : TopOK B G mg mb) (hc : G.consts = cs) {x : Str} {v : V} (h : ckGl cs kd x v e = true) : SoundE prog w B vars S n kd e (.gl x v) := by
  obtain ⟨h0, h⟩ := and2 h
  obtain ⟨h1, h⟩ := and2 h
  obtain ⟨h2, h⟩ := and2 h
  obtain ⟨h3, h⟩ := and2 h
  obtain ⟨h4, h⟩ := and2 h
  obtain ⟨h5, h⟩ := and2 h
  rw [view_at h0 rfl, beq_iff_eq.mp h1]
  cases hl : cs.lookup x with
  | none => rw [hl] at h; cases h
  | some u =>
    rw [hl] at h
    obtain ⟨h6, h7⟩ := and2 h
    rw [const_inj h6 h5 (of_decide_eq_true h7), ← hc] at hl
    exact .gl T hl h4 (isGl_of h2) (not_of h3)
section
variable {f : CkE} (hf : OKE prog w B vars S n f)
include hf
theorem ckBin_ok {o : BOp} {a b : X} (h : ckBin f kd o a b e = true) : SoundE prog w B vars S n kd e (.bin o a b) := by
  obtain ⟨h0, h⟩ := and2 h
  obtain ⟨h1, h⟩ := and2 h
  obtain ⟨h2, h3⟩ := and2 h
  rw [view_at h0 rfl, of_decide_eq_true h1]
  exact .bin sameOp_of (hf _ _ _ h2) (hf _ _ _ h3)
theorem ckCmp_ok {mg mb} (T : TopOK B G mg mb) {o : COp} {a b : X} (h : ckCmp f kd o a b e = true) : SoundE prog w B vars S n kd e (.cmp o a b) := by
  obtain ⟨h0, h⟩ := and2 h
  obtain ⟨h1, h⟩ := and2 h
  obtain ⟨r, hr, h⟩ := is1_of h
  obtain ⟨h2, h⟩ := and2 h
  obtain ⟨h3, h4⟩ := and2 h
  rw [view_at h0 rfl, of_decide_eq_true h1, hr]
  exact .cmp T (hf _ _ _ h3) (hf _ _ _ h4) h2
theorem ckCmp2_ok {mg mb} (T : TopOK B G mg mb) {o p : COp} {a b c : X} (h : ckCmp2 f kd o p a b c e = true) : SoundE prog w B vars S n kd e (.cmp2 o p a b c) := by
  obtain ⟨h0, h⟩ := and2 h
  obtain ⟨h1, h⟩ := and2 h
  obtain ⟨r, t, hr, h⟩ := is2_of h
  obtain ⟨h2, h⟩ := and2 h
  obtain ⟨h3, h⟩ := and2 h
  obtain ⟨h4, h5⟩ := and2 h
  rw [view_at h0 rfl, of_decide_eq_true h1, hr]
  exact .cmp2 T (hf _ _ _ h3) (hf _ _ _ h4) (hf _ _ _ h5) h2
theorem ckBs_ok {op : BoolOp} : ∀ {es : List Expr} {x : X}, ckBs f kd (decide (op = .And)) es x = true → SoundB prog w B vars S n kd op es x
  | [], _, h => by cases h
  | e :: es, x, h => by
    have h' : (match es.isEmpty with | true => f kd e x | false => match x.two (decide (op = .And)) with | some (y, z) => f kd e y && ckBs f kd (decide (op = .And)) es z | none => false) = true := h
    cases es with
    | nil => exact .one (hf _ _ _ h')
    | cons e' es =>
      cases ht : x.two (decide (op = .And)) with
      | none => rw [ht] at h'; cases h'
      | some q =>
        rw [ht] at h'
        obtain ⟨h1, h2⟩ := and2 h'
        have hx := two_of ht
        cases op with
        | And => rw [show x = .and q.1 q.2 from hx]; exact .and (hf _ _ _ h1) (ckBs_ok h2)
        | Or => rw [show x = .or q.1 q.2 from hx]; exact .or (hf _ _ _ h1) (ckBs_ok h2)
theorem ckBool_ok {x : X} (h : ckBool f kd x e = true) : SoundE prog w B vars S n kd e x := by
  obtain ⟨h0, h⟩ := and2 h
  rw [view_at h0 rfl]
  exact .boolop (ckBs_ok hf h)
theorem ckNot_ok {a : X} (h : ckNot f kd a e = true) : SoundE prog w B vars S n kd e (.not a) := by
  obtain ⟨h0, h⟩ := and2 h
  obtain ⟨h1, h2⟩ := and2 h
  rw [view_at h0 rfl, of_decide_eq_true h1]
  exact .not (hf _ _ _ h2)
theorem ckSub_ok {mg mb} (T : TopOK B G mg mb) {a b : X} (h : ckSub f kd a b e = true) : SoundE prog w B vars S n kd e (.sub a b) := by
  obtain ⟨h0, h⟩ := and2 h
  obtain ⟨h1, h2⟩ := and2 h
  rw [view_at h0 rfl]
  exact .sub T (hf _ _ _ h1) (hf _ _ _ h2)
theorem ckEnd_ok {o : Option Expr} {x : X} (h : ckEnd f kd o x = true) : SoundP prog w B vars S n kd o x := by
  cases o with
  | some e => exact .some (hf _ _ _ h)
  | none => rw [isNoneX_of h]; exact .none
omit hf in
theorem none_of {α : Type} {o : Option α} (h : o.isNone = true) : o = none := by cases o with | none => rfl | some => cases h
theorem ckSlc_ok {a b c : X} (h : ckSlc f kd a b c e = true) : SoundE prog w B vars S n kd e (.slc a b c) := by
  obtain ⟨h0, h⟩ := and2 h
  obtain ⟨h1, h⟩ := and2 h
  obtain ⟨h2, h⟩ := and2 h
  obtain ⟨h3, h⟩ := and2 h
  obtain ⟨h4, h5⟩ := and2 h
  rw [view_at h0 rfl, view_at h1 rfl, none_of h2]
  exact .slc (hf _ _ _ h3) (ckEnd_ok hf h4) (ckEnd_ok hf h5)
theorem ckEs_ok : ∀ {es : List Expr} {xs : List X}, ckEs f kd es xs = true → SoundEs prog w B vars S n kd es xs ∧ es.all (fun e => !starred e) = true
  | [], xs, h => by
    have h' : xs.isEmpty = true := h
    rw [nil_of h']; exact ⟨.nil, rfl⟩
  | e :: es, [], h => by cases h
  | e :: es, x :: xs, h => by
    obtain ⟨h1, h⟩ := and2 (show (!starred e && (f kd e x && ckEs f kd es xs)) = true from h)
    obtain ⟨h2, h3⟩ := and2 h
    obtain ⟨i1, i2⟩ := ckEs_ok h3
    exact ⟨.cons (hf _ _ _ h2) i1 (not_of h1), by rw [List.all_cons, h1, i2]; rfl⟩
theorem ckList_ok {xs : List X} (h : ckList f kd xs e = true) : SoundE prog w B vars S n kd e (.list xs) := by
  obtain ⟨h0, h⟩ := and2 h
  obtain ⟨h1, h2⟩ := and2 h
  rw [view_at h0 rfl]
  exact .list (ckEs_ok hf h2).1 (of_decide_eq_true h1)
theorem ckTup_ok {xs : List X} (h : ckTup f kd xs e = true) : SoundE prog w B vars S n kd e (.tup xs) := by
  obtain ⟨h0, h⟩ := and2 h
  obtain ⟨h1, h2⟩ := and2 h
  rw [view_at h0 rfl]
  exact .tup (ckEs_ok hf h2).1 (of_decide_eq_true h1)
theorem ckDict0_ok (h : ckDict0 e = true) : SoundE prog w B vars S n kd e .dict0 := by
  obtain ⟨h0, h⟩ := and2 h
  obtain ⟨h1, h2⟩ := and2 h
  rw [view_at h0 rfl, nil_of h1, nil_of h2]
  exact .dict0
theorem ckDict1_ok {a b : X} (h : ckDict1 f kd a b e = true) : SoundE prog w B vars S n kd e (.dict1 a b) := by
  obtain ⟨h0, h⟩ := and2 h
  obtain ⟨v, hv, h⟩ := is1_of h
  cases ho : (view e).os with
  | nil => rw [ho] at h; cases h
  | cons o r =>
    rw [ho] at h
    obtain ⟨h1, h⟩ := and2 h
    cases o with
    | none => cases h
    | some k =>
      obtain ⟨h2, h3⟩ := and2 h
      rw [view_at h0 rfl, hv, ho, nil_of h1]
      exact .dict1 (hf _ _ _ h2) (hf _ _ _ h3)
omit hf in
theorem nm_of {x : Str} (h : nm e kd x = true) : ∃ p q, e = .Call (.Name x p) (view e).es [] q ∧ kd x = some .globalImplicit := by
  obtain ⟨h0, h⟩ := and2 h
  obtain ⟨h1, h⟩ := and2 h
  obtain ⟨h2, h⟩ := and2 h
  obtain ⟨h3, h4⟩ := and2 h
  refine ⟨(view (view e).a).p, (view e).p, ?_, isGl_of h4⟩
  have e1 := view_at h0 rfl
  rw [nil_of h1] at e1
  refine e1.trans ?_
  congr 1
  rw [view_at h2 rfl, beq_iff_eq.mp h3]
  rfl
theorem ckC1_ok {x : Str} {a : X} (h : ckC1 f kd x a e = true) : ∃ p e' pos, e = .Call (.Name x p) [e'] [] pos ∧ kd x = some .globalImplicit ∧ starred e' = false ∧ SoundE prog w B vars S n kd e' a := by
  obtain ⟨h0, h⟩ := and2 h
  obtain ⟨y, hy, h⟩ := is1_of h
  obtain ⟨p, q, h1, h2⟩ := nm_of h0
  obtain ⟨h3, h4⟩ := and2 h
  exact ⟨p, y, q, by rw [hy] at h1; exact h1, h2, not_of h3, hf _ _ _ h4⟩
theorem ckC2_ok {x : Str} {a b : X} (h : ckC2 f kd x a b e = true) : ∃ p e' e'' pos, e = .Call (.Name x p) [e', e''] [] pos ∧ kd x = some .globalImplicit ∧ starred e' = false ∧ starred e'' = false ∧ SoundE prog w B vars S n kd e' a ∧ SoundE prog w B vars S n kd e'' b := by
  obtain ⟨h0, h⟩ := and2 h
  obtain ⟨y, z, hy, h⟩ := is2_of h
  obtain ⟨p, q, h1, h2⟩ := nm_of h0
  obtain ⟨h3, h⟩ := and2 h
  obtain ⟨h4, h⟩ := and2 h
  obtain ⟨h5, h6⟩ := and2 h
  exact ⟨p, y, z, q, by rw [hy] at h1; exact h1, h2, not_of h3, not_of h4, hf _ _ _ h5, hf _ _ _ h6⟩
omit hf in
theorem ty_look (t : Ty) : biTab.lookup (Str.ofString t.name) = some (.type t.name) := by cases t <;> rfl
theorem ckIsi_ok {mg mb} (T : TopOK B G mg mb) {a : X} {t : Ty} (h : ckIsi f kd a t e = true) : SoundE prog w B vars S n kd e (.isi a t) := by
  obtain ⟨h0, h⟩ := and2 h
  obtain ⟨y, z, hy, h⟩ := is2_of h
  obtain ⟨p, q, h1, h2⟩ := nm_of h0
  obtain ⟨h3, h⟩ := and2 h
  obtain ⟨h4, h⟩ := and2 h
  obtain ⟨h5, h⟩ := and2 h
  obtain ⟨h6, h7⟩ := and2 h
  rw [h1, hy, view_at h3 rfl, beq_iff_eq.mp h4]
  exact .isi T h2 (ty_look _) (isGl_of h5) (hf _ _ _ h7) (not_of h6)
omit hf in
theorem mt_of {x : Str} (h : mt e x = true) : ∃ ap q, e = .Call (.Attribute (view (view e).a).a x ap) (view e).es [] q ∧ plainBase (view (view e).a).a = true ∧ (ap.endLine == q.line) = true := by
  obtain ⟨h0, h⟩ := and2 h
  obtain ⟨h1, h⟩ := and2 h
  obtain ⟨h2, h⟩ := and2 h
  obtain ⟨h3, h⟩ := and2 h
  obtain ⟨h4, h5⟩ := and2 h
  refine ⟨(view (view e).a).p, (view e).p, ?_, h4, h5⟩
  have e1 := view_at h0 rfl
  rw [nil_of h1] at e1
  refine e1.trans ?_
  congr 1
  exact (view_at h2 rfl).trans (by rw [beq_iff_eq.mp h3])
theorem ckM1_ok {x : Str} {a b : X} (h : ckM1 f kd x a b e = true) : ∃ o e' ap pos, e = .Call (.Attribute o x ap) [e'] [] pos ∧ plainBase o = true ∧ starred e' = false ∧ (ap.endLine == pos.line) = true ∧ SoundE prog w B vars S n kd o a ∧ SoundE prog w B vars S n kd e' b := by
  obtain ⟨h0, h⟩ := and2 h
  obtain ⟨y, hy, h⟩ := is1_of h
  obtain ⟨p, q, h1, h2, h3⟩ := mt_of h0
  obtain ⟨h4, h⟩ := and2 h
  obtain ⟨h5, h6⟩ := and2 h
  exact ⟨_, y, p, q, by rw [hy] at h1; exact h1, h2, not_of h4, h3, hf _ _ _ h5, hf _ _ _ h6⟩
theorem ckM2_ok {x : Str} {a b c : X} (h : ckM2 f kd x a b c e = true) : ∃ o e' e'' ap pos, e = .Call (.Attribute o x ap) [e', e''] [] pos ∧ plainBase o = true ∧ starred e' = false ∧ starred e'' = false ∧ (ap.endLine == pos.line) = true ∧ SoundE prog w B vars S n kd o a ∧ SoundE prog w B vars S n kd e' b ∧ SoundE prog w B vars S n kd e'' c := by
  obtain ⟨h0, h⟩ := and2 h
  obtain ⟨y, z, hy, h⟩ := is2_of h
  obtain ⟨p, q, h1, h2, h3⟩ := mt_of h0
  obtain ⟨h4, h⟩ := and2 h
  obtain ⟨h4', h⟩ := and2 h
  obtain ⟨h5, h⟩ := and2 h
  obtain ⟨h6, h7⟩ := and2 h
  exact ⟨_, y, z, p, q, by rw [hy] at h1; exact h1, h2, not_of h4, not_of h4', h3, hf _ _ _ h5, hf _ _ _ h6, hf _ _ _ h7⟩
theorem ckCall_ok {ids : List (Str × Nat)} {mg mb} (T : TopOK B G mg mb) (K : SpecOK prog w B S n G) (hi : ∀ y i, ids.lookup y = some i → ∃ a, G.fns.lookup y = some (i, a)) {i : Nat} {xs : List X} (h : ckCall ids f kd i xs e = true) : SoundE prog w B vars S n kd e (.call i xs) := by
  obtain ⟨h0, h⟩ := and2 h
  obtain ⟨h1, h⟩ := and2 h
  obtain ⟨h2, h⟩ := and2 h
  obtain ⟨h3, h⟩ := and2 h
  obtain ⟨h4, h⟩ := and2 h
  obtain ⟨h5, h⟩ := and2 h
  obtain ⟨h6, h7⟩ := and2 h
  obtain ⟨a, ha⟩ := hi _ _ (of_decide_eq_true h3)
  rw [view_at h0 rfl, view_at h2 rfl, nil_of h1]
  exact .call T K ha (isGl_of h4) (not_of h5) (ckEs_ok hf h7).1 (fun z => by rw [z] at h6; cases h6) (ckEs_ok hf h7).2
end
theorem ckNames_ok : ∀ {es : List Expr} {is : List Nat}, ckNames vars kd es is = true → Names vars kd es is
  | [], is, h => by
    have h' : is.isEmpty = true := h
    rw [nil_of h']; exact .nil
  | e :: es, [], h => by cases h
  | e :: es, i :: is, h => by
    obtain ⟨h0, h⟩ := and2 (show (isT 1 e && (decide (vars[i]? = some (view e).s) && (isLc kd (view e).s && ckNames vars kd es is))) = true from h)
    obtain ⟨h1, h⟩ := and2 h
    obtain ⟨h2, h3⟩ := and2 h
    rw [view_at h0 rfl]
    exact .cons (of_decide_eq_true h1) (isLc_of h2) (ckNames_ok h3)
theorem ckTgt_ok {tg : Tgt} (hn : vars.Nodup) (h : ckTgt vars kd e tg = true) : SoundT prog w B vars kd e tg := by
  cases tg with
  | one i =>
    obtain ⟨h0, h⟩ := and2 h
    obtain ⟨h1, h2⟩ := and2 h
    rw [view_at h0 rfl]
    exact .one hn (of_decide_eq_true h1) (isLc_of h2)
  | many is =>
    obtain ⟨h0, h⟩ := and2 h
    rw [view_at h0 rfl]
    exact .many hn (ckNames_ok h)
theorem ckScope_ok {scope : Scope} {tg : Tgt} (h : ckScope vars kd scope tg = true) : CompOK vars kd scope tg := by
  obtain ⟨h1, h⟩ := and2 h
  obtain ⟨h2, h⟩ := and2 h
  obtain ⟨h3, h⟩ := and2 h
  obtain ⟨h4, h5⟩ := and2 h
  rw [List.all_eq_true] at h3 h4 h5
  refine ⟨of_decide_eq_true h1, of_decide_eq_true h2, fun y hy => of_decide_eq_false (not_of (and2 (h3 y hy)).1), fun y hy hf => ?_, fun i hi => ?_, fun i x hx hl => ?_⟩
  · rcases Bool.or_eq_true_iff.mp (and2 (h3 y hy)).2 with h | h
    · exact absurd hf (of_decide_eq_false (not_of h))
    · rcases Bool.or_eq_true_iff.mp h with h | h
      · exact .inl (of_decide_eq_true h)
      · exact .inr (of_decide_eq_true h)
  · have := h4 i hi
    cases hv : vars[i]? with
    | none => rw [hv] at this; cases this
    | some x => rw [hv] at this; exact ⟨x, rfl, of_decide_eq_true this⟩
  · have hlt : i < vars.length := (List.getElem?_eq_some_iff.mp hx).1
    have := h5 i (List.mem_range.mpr hlt)
    rw [hx] at this
    rcases Bool.or_eq_true_iff.mp this with h | h
    · exact absurd hl (of_decide_eq_false (not_of h))
    · exact of_decide_eq_true h
theorem gen1_of {g : Comprehension → Bool} (h : gen1 e g = true) : ∃ c p, e = .ListComp (view e).a [c] (view e).sc p ∧ c.is_async = 0 ∧ g c = true := by
  obtain ⟨h0, h⟩ := and2 h
  cases hg : (view e).gens with
  | nil => rw [hg] at h; cases h
  | cons c r =>
    rw [hg] at h
    obtain ⟨h1, h⟩ := and2 h
    obtain ⟨h2, h3⟩ := and2 h
    refine ⟨c, (view e).p, ?_, of_decide_eq_true h2, h3⟩
    have e1 := view_at h0 rfl
    rw [hg, nil_of h1] at e1
    exact e1
section
variable {f : CkE} (hf : OKE prog w B vars S n f) (hn : vars.Nodup)
include hf hn
theorem ckComp_ok {tg : Tgt} {a b : X} (h : ckComp vars f kd tg a b e = true) :
    ∃ elt target iter scope pos, e = .ListComp elt [⟨target, iter, [], 0⟩] scope pos ∧ CompOK vars kd scope tg ∧ notSet iter = true ∧ SoundE prog w B vars S n kd iter a ∧ SoundT prog w B vars (kdIn scope kd) target tg ∧ SoundE prog w B vars S n (kdIn scope kd) elt b := by
  obtain ⟨⟨t, i, fs, as⟩, p, h1, h2, h⟩ := gen1_of h
  obtain ⟨h3, h⟩ := and2 h
  obtain ⟨h4, h⟩ := and2 h
  obtain ⟨h5, h⟩ := and2 h
  obtain ⟨h6, h⟩ := and2 h
  obtain ⟨h7, h8⟩ := and2 h
  have h3' : fs = [] := nil_of h3
  have h2' : as = 0 := h2
  subst h3'; subst h2'
  exact ⟨_, t, i, _, p, h1, ckScope_ok h4, h5, hf _ _ _ h6, ckTgt_ok hn h7, hf _ _ _ h8⟩
theorem ckCompIf_ok {tg : Tgt} {a c b : X} (h : ckCompIf vars f kd tg a c b e = true) :
    ∃ elt target iter t scope pos, e = .ListComp elt [⟨target, iter, [t], 0⟩] scope pos ∧ CompOK vars kd scope tg ∧ notSet iter = true ∧ SoundE prog w B vars S n kd iter a ∧ SoundT prog w B vars (kdIn scope kd) target tg ∧ SoundE prog w B vars S n (kdIn scope kd) t c ∧ SoundE prog w B vars S n (kdIn scope kd) elt b := by
  obtain ⟨⟨t, i, fs, as⟩, p, h1, h2, h⟩ := gen1_of h
  obtain ⟨u, h3, h⟩ := is1_of h
  obtain ⟨h4, h⟩ := and2 h
  obtain ⟨h5, h⟩ := and2 h
  obtain ⟨h6, h⟩ := and2 h
  obtain ⟨h7, h⟩ := and2 h
  obtain ⟨h8, h9⟩ := and2 h
  have h3' : fs = [u] := h3
  have h2' : as = 0 := h2
  subst h3'; subst h2'
  exact ⟨_, t, i, u, _, p, h1, ckScope_ok h4, h5, hf _ _ _ h6, ckTgt_ok hn h7, hf _ _ _ h8, hf _ _ _ h9⟩
end

theorem ckX_ok {cs : List (Str × V)} {ids : List (Str × Nat)} {mg mb} (T : TopOK B G mg mb) (K : SpecOK prog w B S n G) (hc : G.consts = cs) (hi : ∀ y i, ids.lookup y = some i → ∃ a, G.fns.lookup y = some (i, a)) (hn : vars.Nodup) {f : CkE} (hf : OKE prog w B vars S n f) {x : X} (h : ckX vars cs ids f kd e x = true) : SoundE prog w B vars S n kd e x := by
  cases x with
  | var i => exact ckVar_ok h
  | cst v => exact ckCst_ok h
  | gl y v => exact ckGl_ok T hc h
  | bin o a b => exact ckBin_ok hf h
  | cmp o a b => exact ckCmp_ok hf T h
  | cmp2 o p a b c => exact ckCmp2_ok hf T h
  | and a b => exact ckBool_ok hf h
  | or a b => exact ckBool_ok hf h
  | not a => exact ckNot_ok hf h
  | sub a b => exact ckSub_ok hf T h
  | slc a b c => exact ckSlc_ok hf h
  | list xs => exact ckList_ok hf h
  | tup xs => exact ckTup_ok hf h
  | dict0 => exact ckDict0_ok hf h
  | dict1 a b => exact ckDict1_ok hf h
  | comp t a b =>
    obtain ⟨_, _, _, _, _, rfl, h1, h2, h3, h4, h5⟩ := ckComp_ok hf hn h
    exact .comp h1 h3 h4 h5 h2
  | compIf t a c b =>
    obtain ⟨_, _, _, _, _, _, rfl, h1, h2, h3, h4, h5, h6⟩ := ckCompIf_ok hf hn h
    exact .compIf h1 h3 h4 h5 h6 h2
  | call i xs => exact ckCall_ok hf T K hi h
  | len a =>
    obtain ⟨_, _, _, rfl, h1, h2, h3⟩ := ckC1_ok hf h
    exact .len T h1 h3 h2
  | listOf a =>
    obtain ⟨_, _, _, rfl, h1, h2, h3⟩ := ckC1_ok hf h
    exact .listOf T h1 h3 h2
  | isi a t => exact ckIsi_ok hf T h
  | max2 a b =>
    obtain ⟨_, _, _, _, rfl, h1, h2, h3, h4, h5⟩ := ckC2_ok hf h
    exact .max2 T h1 h4 h5 h2 h3
  | rng1 a =>
    obtain ⟨_, _, _, rfl, h1, h2, h3⟩ := ckC1_ok hf h
    exact .rng1 T h1 h3 h2
  | append a b =>
    obtain ⟨_, _, _, _, rfl, h1, h2, h3, h4, h5⟩ := ckM1_ok hf h
    exact .append h4 h5 h1 h2 h3
  | minOf a =>
    obtain ⟨_, _, _, rfl, h1, h2, h3⟩ := ckC1_ok hf h
    exact .minOf T h1 h3 h2
  | sorted a =>
    obtain ⟨_, _, _, rfl, h1, h2, h3⟩ := ckC1_ok hf h
    exact .sorted T h1 h3 h2
  | sortedP a =>
    obtain ⟨_, _, _, rfl, h1, h2, h3⟩ := ckC1_ok hf h
    exact .sortedP T h1 h3 h2
  | pop a =>
    obtain ⟨h0, h⟩ := and2 h
    obtain ⟨h4, h5⟩ := and2 h
    obtain ⟨p, q, h1, h2, h3⟩ := mt_of h0
    rw [nil_of h4] at h1
    rw [h1]
    exact .pop (hf _ _ _ h5) h2 h3
  | get2 a b c =>
    obtain ⟨_, _, _, _, _, rfl, h1, h2, h3, h4, h5, h6, h7⟩ := ckM2_ok hf h
    exact .get2 T h5 h6 h7 h1 h2 h3 h4
  | _ => cases h
theorem ckE_ok {cs : List (Str × V)} {ids : List (Str × Nat)} {mg mb} (T : TopOK B G mg mb) (K : SpecOK prog w B S n G) (hc : G.consts = cs) (hi : ∀ y i, ids.lookup y = some i → ∃ a, G.fns.lookup y = some (i, a)) (hn : vars.Nodup) : ∀ m, OKE prog w B vars S n (ckE vars cs ids m)
  | 0 => fun _ _ _ h => by cases h
  | m + 1 => fun _ _ _ h => ckX_ok T K hc hi hn (ckE_ok T K hc hi hn m) h
theorem ckSs_ok {g : CkS} (hg : ∀ s x, g s x = true → SoundS prog w B vars S n kd s x) : ∀ {ss : List Stmt} {xs : List Mine.S}, ckSs g ss xs = true → SoundSs prog w B vars S n kd ss xs
  | [], xs, h => by
    have h' : xs.isEmpty = true := h
    rw [nil_of h']; exact .nil
  | _ :: _, [], h => by cases h
  | s :: ss, x :: xs, h => by
    obtain ⟨h1, h2⟩ := and2 (show (g s x && ckSs g ss xs) = true from h)
    exact .cons (hg _ _ h1) (ckSs_ok hg h2)
theorem asgV_of {f : CkE} {a : X} (h : ckAsgV vars f kd a e = true) : (∃ tg it b, a = .comp tg it b ∧ ckComp vars f kd tg it b e = true) ∨ ∃ tg it c b, a = .compIf tg it c b ∧ ckCompIf vars f kd tg it c b e = true := by
  cases a with
  | comp tg it b => exact .inl ⟨tg, it, b, rfl, h⟩
  | compIf tg it c b => exact .inr ⟨tg, it, c, b, rfl, h⟩
  | _ => cases h
theorem ckAsg_ok {f : CkE} (hf : OKE prog w B vars S n f) (hn : vars.Nodup) {t : Tgt} {a : X} {s : Stmt} (h : ckAsg vars f kd t a s = true) : SoundS prog w B vars S n kd s (.asg t a) := by
  obtain ⟨h0, h⟩ := and2 h
  obtain ⟨g, hg, h⟩ := is1_of h
  rw [sview_at h0 rfl, hg]
  generalize (sview s).a = e at h ⊢
  generalize (sview s).p = p at h ⊢
  cases t with
  | one i =>
    obtain ⟨h1, h⟩ := and2 h
    obtain ⟨h2, h⟩ := and2 h
    obtain ⟨h3, h⟩ := and2 h
    rw [view_at h1 rfl]
    rcases Bool.or_eq_true_iff.mp h with h | h
    · rcases asgV_of h with ⟨tg, it, b, rfl, h⟩ | ⟨tg, it, c, b, rfl, h⟩
      · obtain ⟨_, _, _, _, _, rfl, k1, k2, k3, k4, k5⟩ := ckComp_ok hf hn h
        exact .asgComp hn (of_decide_eq_true h2) (isLc_of h3) k1 k3 k4 k5 k2
      · obtain ⟨_, _, _, _, _, _, rfl, k1, k2, k3, k4, k5, k6⟩ := ckCompIf_ok hf hn h
        exact .asgCompIf hn (of_decide_eq_true h2) (isLc_of h3) k1 k3 k4 k5 k6 k2
    · obtain ⟨h4, h5⟩ := and2 h
      exact .asg hn (of_decide_eq_true h2) (isLc_of h3) (hf _ _ _ h5) h4
  | many is =>
    obtain ⟨h1, h⟩ := and2 h
    obtain ⟨h2, h⟩ := and2 h
    obtain ⟨h3, h⟩ := and2 h
    obtain ⟨h4, h5⟩ := and2 h
    rw [view_at h1 rfl]
    exact .asgT hn (ckNames_ok h2) (hf _ _ _ h5) h3 h4
theorem ckY_ok {mg mb} (T : TopOK B G mg mb) {f : CkE} (hf : OKE prog w B vars S n f) (hn : vars.Nodup) {g : CkS} (hg : ∀ s x, g s x = true → SoundS prog w B vars S n kd s x) {s : Stmt} {x : Mine.S} (h : ckY vars f kd g s x = true) : SoundS prog w B vars S n kd s x := by
  cases x with
  | expr a =>
    obtain ⟨h0, h⟩ := and2 h
    obtain ⟨h1, h2⟩ := and2 h
    rw [sview_at h0 rfl]
    exact .expr (hf _ _ _ h2) h1
  | asg t a => exact ckAsg_ok hf hn h
  | setItem a b c =>
    obtain ⟨h0, h⟩ := and2 h
    obtain ⟨t, ht, h⟩ := is1_of h
    obtain ⟨h1, h⟩ := and2 h
    obtain ⟨h2, h⟩ := and2 h
    obtain ⟨h3, h⟩ := and2 h
    obtain ⟨h4, h5⟩ := and2 h
    rw [sview_at h0 rfl, ht, view_at h1 rfl]
    exact .setItem T (hf _ _ _ h3) (hf _ _ _ h4) (hf _ _ _ h5) h2
  | ret a =>
    obtain ⟨h0, h⟩ := and2 h
    cases ho : (sview s).o with
    | none => rw [ho] at h; cases h
    | some e =>
      rw [ho] at h
      rw [sview_at h0 rfl, ho]
      exact .ret (hf _ _ _ h)
  | ite c xs ys =>
    obtain ⟨h0, h⟩ := and2 h
    obtain ⟨h1, h⟩ := and2 h
    obtain ⟨h2, h3⟩ := and2 h
    rw [sview_at h0 rfl]
    exact .ite (hf _ _ _ h1) (ckSs_ok hg h2) (ckSs_ok hg h3)
  | «for» t a xs =>
    obtain ⟨h0, h⟩ := and2 h
    obtain ⟨h1, h⟩ := and2 h
    obtain ⟨h2, h⟩ := and2 h
    obtain ⟨h3, h⟩ := and2 h
    obtain ⟨h4, h5⟩ := and2 h
    rw [sview_at h0 rfl, nil_of h1]
    exact .for T (ckTgt_ok hn h2) (hf _ _ _ h4) (ckSs_ok hg h5) h3
  | forEnum t a xs =>
    obtain ⟨h0, h⟩ := and2 h
    obtain ⟨h1, h⟩ := and2 h
    obtain ⟨h2, h⟩ := and2 h
    obtain ⟨h3, h⟩ := and2 h
    obtain ⟨h4, h5⟩ := and2 h
    obtain ⟨_, y, _, hb, k1, k2, k3⟩ := ckC1_ok hf h4
    rw [sview_at h0 rfl, nil_of h1, hb]
    have ht : SoundT prog w B vars kd (sview s).a t := ckTgt_ok hn h2
    rw [view_at h3 rfl] at ht ⊢
    exact .forEnum T k1 ht k3 (ckSs_ok hg h5) k2
  | «while» c xs =>
    obtain ⟨h0, h⟩ := and2 h
    obtain ⟨h1, h⟩ := and2 h
    obtain ⟨h2, h3⟩ := and2 h
    rw [sview_at h0 rfl, nil_of h1]
    exact .while (hf _ _ _ h2) (ckSs_ok hg h3)
  | stop => exact .stop
theorem ckS_ok {mg mb} (T : TopOK B G mg mb) {f : CkE} (hf : OKE prog w B vars S n f) (hn : vars.Nodup) : ∀ m s x, ckS vars f kd m s x = true → SoundS prog w B vars S n kd s x
  | 0, _, _, h => by cases h
  | m + 1, _, _, h => ckY_ok T hf hn (ckS_ok T hf hn m) h
/-- a function's text, checked -/
noncomputable def ckFn (cs : List (Str × V)) (ids : List (Str × Nat)) (vars : List Str) (kd : Kd) (body : List Stmt) (xs : List Mine.S) : Bool := decide vars.Nodup && ckSs (ckS vars (ckE vars cs ids 40) kd 40) body xs
theorem ckFn_ok {cs : List (Str × V)} {ids : List (Str × Nat)} {mg mb} (T : TopOK B G mg mb) (hc : G.consts = cs) (hi : ∀ y i, ids.lookup y = some i → ∃ a, G.fns.lookup y = some (i, a)) {body : List Stmt} {xs : List Mine.S} (h : ckFn cs ids vars kd body xs = true) : vars.Nodup ∧ ∀ S n, SpecOK prog w B S n G → SoundSs prog w B vars S n kd body xs := by
  obtain ⟨h1, h2⟩ := and2 h
  exact ⟨of_decide_eq_true h1, fun S n K => ckSs_ok (ckS_ok T (ckE_ok T K hc hi (of_decide_eq_true h1) 40) (of_decide_eq_true h1) 40) h2⟩
end
end Mine

namespace Mine
open PySem PyProof.Rows PySem.W

theorem zip_look {α : Type} : ∀ {ns : List Str} {vs : List α}, vs.length = ns.length → ∀ x ∈ ns, ((ns.zip vs).lookup x).isSome = true
  | [], _, _, _, h => by cases h
  | n :: ns, [], e, _, _ => by simp at e
  | n :: ns, v :: vs, e, x, h => by
    simp only [List.zip_cons_cons, List.lookup_cons]
    by_cases hx : (x == n) = true
    · simp [hx]
    · simp only [hx]
      rcases List.mem_cons.mp h with rfl | h
      · simp at hx
      · exact zip_look (by simpa using e) x h
theorem zip_map {α : Type} : ∀ {ns : List Str} {vs : List α}, ns.Nodup → vs.length = ns.length → ns.filterMap (fun n => ((ns.zip vs).lookup n).map (n, ·)) = ns.zip vs
  | [], _, _, _ => by simp
  | n :: ns, [], _, e => by simp at e
  | n :: ns, v :: vs, hn, e => by
    rw [List.nodup_cons] at hn
    have ih := zip_map hn.2 (vs := vs) (by simpa using e)
    rw [List.filterMap_cons]
    simp only [List.zip_cons_cons, List.lookup_cons, beq_self_eq_true, Option.map_some]
    congr 1
    have key : ∀ l : List Str, (∀ x ∈ l, x ≠ n) → l.filterMap (fun x => (match x == n with | true => some v | false => (ns.zip vs).lookup x).map (x, ·)) = l.filterMap (fun x => ((ns.zip vs).lookup x).map (x, ·)) := by
      intro l
      induction l with
      | nil => intro _; rfl
      | cons y l ihl =>
        intro h
        have hy : (y == n) = false := by simpa using h y (.head _)
        rw [List.filterMap_cons, List.filterMap_cons, ihl fun x hx => h x (List.mem_cons_of_mem _ hx)]
        simp only [hy]
    exact (key ns fun x hx => by rintro rfl; exact hn.1 hx).trans ih
theorem bind_plain {fd : FuncData} {names : List Str} {vals : List Value} (hpo : fd.params.posonlyargs = []) (hkw : fd.params.kwonlyargs = []) (hva : fd.params.vararg = none) (hka : fd.params.kwarg = none) (hd : fd.defaults = .none)
    (hn : fd.params.args.map (·.arg) = names) (nd : names.Nodup) (hl : vals.length = names.length) : bindArgs fd ⟨vals, []⟩ = pure (names.zip vals) := by
  unfold bindArgs
  simp only [hpo, hkw, hva, hka, hd, hn, List.map_nil, List.nil_append, List.append_nil, List.forIn_nil, hl]
  have hs : seqItems? Value.none = pure none := rfl
  simp only [hs, pure_bind]
  have hm : ∀ k, (names.take k).filter (fun n => ((names.zip vals).lookup n).isNone) = [] := by
    intro k
    rw [List.filter_eq_nil_iff]
    intro x hx
    have := zip_look hl x (List.mem_of_mem_take hx)
    simp [Option.isSome_iff_ne_none] at this ⊢
    exact this
  simp
  refine (if_neg (by rw [hm]; simp)).trans ?_
  rw [zip_map nd hl]
/-- all that is asked of a function's text -/
noncomputable def ckRec (cs : List (Str × V)) (ids : List (Str × Nat)) (d : DefRec) (np : Nat) (vars : List Str) (xs : List Mine.S) : Bool :=
  ckFn cs ids vars (fun x => d.scope.names.lookup x) d.body xs && (!d.scope.isCoroutine && (!d.scope.isGenerator && (decide (d.scope.kind = .function) && (d.params.posonlyargs.isEmpty && (d.params.kwonlyargs.isEmpty && (d.params.vararg.isNone && (d.params.kwarg.isNone &&
    (decide (d.params.args.map (·.arg) = vars.take np) && (decide (np ≤ vars.length) && ((vars.take np).all (fun x => isLc (fun x => d.scope.names.lookup x) x) && d.scope.names.all (fun y => !decide (y.2 = .free))))))))))))
theorem ckRec_ok {prog : Program} {w : World} {B : Shared} {G : Gl} {mg mb} (T : TopOK B G mg mb) {cs : List (Str × V)} {ids : List (Str × Nat)} (hc : G.consts = cs) (hi : ∀ y i, ids.lookup y = some i → ∃ a, G.fns.lookup y = some (i, a)) {d : DefRec} {np : Nat} {vars : List Str} {xs : List Mine.S} (h : ckRec cs ids d np vars xs = true)
    {a : Addr} {o : Obj} {pm code doc : Value} (ho : B.heap.get? a = some o) (hd : o.data = .func (Calls.docDef d.name d.params d.body d.scope pm code doc)) (hcd : B.heap.CodeRec code d.name) : FnAt prog w B G a np xs vars o (Calls.docDef d.name d.params d.body d.scope pm code doc) d.body := by
  obtain ⟨h1, h⟩ := and2 h
  obtain ⟨h4, h⟩ := and2 h
  obtain ⟨h5, h⟩ := and2 h
  obtain ⟨h6, h⟩ := and2 h
  obtain ⟨h9, h⟩ := and2 h
  obtain ⟨h10, h⟩ := and2 h
  obtain ⟨h11, h⟩ := and2 h
  obtain ⟨h12, h⟩ := and2 h
  obtain ⟨h14, h⟩ := and2 h
  obtain ⟨h15, h⟩ := and2 h
  obtain ⟨h16, h17⟩ := and2 h
  obtain ⟨nd, hs⟩ := ckFn_ok (prog := prog) (w := w) T hc hi h1
  rw [List.all_eq_true] at h16 h17
  refine ⟨ho, hd, hcd, rfl, rfl, not_of h4, not_of h5, of_decide_eq_true h6, rfl, rfl, nd, fun vals hl => ?_, fun x hx => isLc_of (h16 x hx), fun y hy => of_decide_eq_false (not_of (h17 y hy)), hs⟩
  refine bind_plain (nil_of h9) (nil_of h10) (none_of h11) (none_of h12) rfl (of_decide_eq_true h14) (nd.sublist (List.take_sublist _ _)) ?_
  rw [hl, List.length_take, Nat.min_eq_left (of_decide_eq_true h15)]
end Mine

namespace Mine
open PySem PyProof.Rows PySem.W

/-- a start of the store: the script alone -/
noncomputable def σ0 (a : Addr) (ns : List Int) : Store := fun b => if b = a then some (.list false (ns.map .int)) else none
theorem law_call {prog : Program} {w : World} {s₁ : Shared} {G : Gl} {S : Spec} {n : Nat} (hS : SpecOK prog w s₁ S n G) (g : Good callerA n) {x : Str} {i : Nat} {fa a : Addr} (hx : G.fns.lookup x = some (i, fa)) {vs : List Value} {ns : List Int}
    (hL : s₁.heap.IsList a vs.toArray) (hI : IntsAre vs ns) (hlen : ns.length ≤ 63) (hlow : ∃ b o, sysModules < b ∧ s₁.heap.get? b = some o) (q : S i [.ref a] (σ0 a ns) fun v _ => v = .bool true) {R : Result → Shared → Prop}
    (hR : ∀ s', (∀ b o, s₁.heap.get? b = some o → s'.heap.get? b = some o) → s'.os = s₁.os → s'.gens = s₁.gens → R (.ok (.ret (.bool true))) s') : codeAny (model prog w) callerA (.call (.ref fa) ⟨[.ref a], []⟩) R s₁ := by
  have C : Core prog w s₁ (σ0 a ns) s₁ := by
    refine ⟨⟨_, _, rfl⟩, fun _ _ e => e, fun b o e => ?_, fun b o e hm => ?_, fun b o e hm => ?_, hlow⟩
    · unfold σ0 at e
      split at e
      · rename_i hb; cases e; subst hb
        exact ⟨vs.toArray, ⟨hL, fun h => by cases h⟩, by have := ints_len hI; simp; omega, by simpa using ints_rel hI⟩
      · cases e
    · unfold σ0 at e
      split at e
      · cases e; rcases hm with h | h <;> cases h
      · cases e
    · unfold σ0 at e
      split at e
      · cases e; cases hm
      · cases e
  refine codeAny_mono (hS x i fa hx [.ref a] [.ref a] _ s₁ _ callerA g C (.one (by simp [VRel])) q) fun r s' h => ?_
  obtain ⟨v, y, σ', rfl, rv, C', T', rfl⟩ := h
  simp only [VRel] at rv; subst rv
  obtain ⟨h', tk', e⟩ := C'.same
  exact hR s' C'.base (by rw [e]) (by rw [e])
/-- the program's names, as they stand at the top -/
noncomputable def adOf (mg : Str → Option Value) (x : Str) : Addr := match mg x with
  | some (.ref a) => a
  | _ => 0
noncomputable def glOf (cs : List (Str × V)) (ids : List (Str × Nat)) (mg : Str → Option Value) : Gl := ⟨cs, ids.map fun q => (q.1, q.2, adOf mg q.1)⟩
theorem gl_look {cs : List (Str × V)} {mg : Str → Option Value} {y : Str} : ∀ {ids : List (Str × Nat)}, (glOf cs ids mg).fns.lookup y = (ids.lookup y).map fun i => (i, adOf mg y)
  | [] => rfl
  | q :: ids => by
    show List.lookup y ((q.1, q.2, adOf mg q.1) :: (glOf cs ids mg).fns) = _
    rw [List.lookup_cons, List.lookup_cons]
    cases hq : y == q.1 with
    | true => rw [beq_iff_eq.mp hq]; rfl
    | false => exact gl_look
noncomputable def sameD : PyData → V → Bool
  | .int i, v => !isRef v && decide (v.const = .int i)
  | .str x, v => !isRef v && decide (v.const = .str x)
  | _, _ => false
noncomputable def ckTop (p : Program) (loose : List Str) (cs : List (Str × V)) (ids : List (Str × Nat)) : Bool :=
  cs.all (fun q => match valOf p q.1 with | some d => sameD d q.2 | none => false) && (ids.all (fun q => (recsOf p).any fun d => d.name == q.1) &&
  biTab.all (fun q => !startupNames.contains q.1 && (!loose.contains q.1 && (!((recsOf p).map (·.name)).contains q.1 && (!((litsOf p).map (·.1)).contains q.1 && !((clssOf p loose).map (·.name)).contains q.1)))))
theorem notin_of {x : Str} {l : List Str} (h : (!l.contains x) = true) : x ∉ l := fun hm => by
  rw [List.contains_iff_mem.mpr hm] at h; cases h
theorem sameD_ok {d : PyData} {v : V} (h : sameD d v = true) {u : Value} (hr : ∀ h' : Heap, Reads h' u d []) (hh : Heap) : VRel hh v u := by
  have r := hr hh
  cases r with
  | int i t =>
    obtain ⟨h1, h2⟩ := and2 h
    rw [const_inj (v := .int i) h1 rfl (of_decide_eq_true h2)]
    exact ⟨t, rfl⟩
  | str x t =>
    obtain ⟨h1, h2⟩ := and2 h
    rw [const_inj (v := .str x) h1 rfl (of_decide_eq_true h2)]
    exact ⟨t, rfl⟩
  | _ => cases h
theorem ad_of {p : Program} {loose : List Str} {mean : ExcName → Option Value} {mg mb : Str → Option Value} {s₁ : Shared} (T : Top p loose mean mg mb s₁.heap) {d : DefRec} (hd : d ∈ recsOf p) : ∃ o pm code doc, mg d.name = some (.ref (adOf mg d.name)) ∧ s₁.heap.get? (adOf mg d.name) = some o ∧ o.data = .func (Calls.docDef d.name d.params d.body d.scope pm code doc) ∧ s₁.heap.CodeRec code d.name := by
  obtain ⟨a, o, pm, code, doc, h1, h2, h3, h4⟩ := T.fn d hd
  have ha : adOf mg d.name = a := by unfold adOf; rw [h1]
  rw [ha]
  exact ⟨o, pm, code, doc, h1, h2, h3, h4⟩
theorem top_ok {p : Program} {loose : List Str} {mean : ExcName → Option Value} {mg mb : Str → Option Value} {s₁ : Shared} {cs : List (Str × V)} {ids : List (Str × Nat)} (T : Top p loose mean mg mb s₁.heap) (h : ckTop p loose cs ids = true)
    (hb : ∀ q ∈ biTab, bootBuiltins q.1 = some q.2 ∧ q.1 ≠ "__name__") : TopOK s₁ (glOf cs ids mg) mg mb := by
  obtain ⟨h1, h⟩ := and2 h
  obtain ⟨h2, h3⟩ := and2 h
  rw [List.all_eq_true] at h1 h2 h3
  refine ⟨T.g, T.b, T.nolimit, fun x v h => ?_, fun x i a h => ?_, fun x v h => ?_⟩
  · have := h1 _ (mem_of_lookup h)
    cases hv : valOf p x with
    | none => rw [hv] at this; cases this
    | some d =>
      rw [hv] at this
      obtain ⟨u, k1, k2⟩ := T.const x d hv
      exact ⟨u, k1, sameD_ok this k2 _⟩
  · rw [gl_look] at h
    cases hl : ids.lookup x with
    | none => rw [hl] at h; cases h
    | some j =>
      rw [hl] at h
      cases h
      obtain ⟨d, hd, hn⟩ := List.any_eq_true.mp (h2 _ (mem_of_lookup hl))
      have hn' : d.name = x := beq_iff_eq.mp hn
      obtain ⟨o, pm, code, doc, k1, k2, k3, _⟩ := ad_of T hd
      rw [hn'] at k1 k2
      exact ⟨k1, o, _, k2, k3⟩
  · obtain ⟨b1, b2⟩ := hb _ (mem_of_lookup h)
    obtain ⟨k1, k⟩ := and2 (h3 _ (mem_of_lookup h))
    obtain ⟨k2, k⟩ := and2 k
    obtain ⟨k3, k⟩ := and2 k
    obtain ⟨k4, k5⟩ := and2 k
    exact ⟨T.free x (notin_of k1) (notin_of k2) (notin_of k3) (notin_of k4) (notin_of k5), (T.builtins x b2).trans b1⟩
/-- a function's text is the program's own -/
noncomputable def ckOne (P : Tab) (p : Program) (cs : List (Str × V)) (ids : List (Str × Nat)) (vars : List Str) (x : Str) (i : Nat) : Bool := match P i with
  | some (np, xs) => (recsOf p).any fun d => d.name == x && ckRec cs ids d np vars xs
  | none => false
theorem fns_ok {P : Tab} {p prog : Program} {w : World} {loose : List Str} {mean : ExcName → Option Value} {mg mb : Str → Option Value} {s₁ : Shared} {cs : List (Str × V)} {ids : List (Str × Nat)} (T : Top p loose mean mg mb s₁.heap) (TO : TopOK s₁ (glOf cs ids mg) mg mb)
    (h : ∀ q ∈ ids, ∃ vars, ckOne P p cs ids vars q.1 q.2 = true) : ∀ x i a, (glOf cs ids mg).fns.lookup x = some (i, a) → ∃ np xs vars o fd body, P i = some (np, xs) ∧ FnAt prog w s₁ (glOf cs ids mg) a np xs vars o fd body := by
  intro x i a hx
  rw [gl_look] at hx
  cases hl : ids.lookup x with
  | none => rw [hl] at hx; cases hx
  | some j =>
    rw [hl] at hx
    cases hx
    obtain ⟨vars, hk⟩ := h _ (mem_of_lookup hl)
    unfold ckOne at hk
    cases hp : P i with
    | none => rw [hp] at hk; cases hk
    | some q =>
      rw [hp] at hk
      obtain ⟨d, hd, hn⟩ := List.any_eq_true.mp hk
      obtain ⟨hn, hr⟩ := and2 hn
      have hn' : d.name = x := beq_iff_eq.mp hn
      obtain ⟨o, pm, code, doc, k1, k2, k3, k4⟩ := ad_of T hd
      rw [← hn']
      exact ⟨q.1, q.2, vars, o, _, _, rfl, ckRec_ok TO rfl (fun y i e => ⟨_, by rw [gl_look, e]; rfl⟩) hr k2 k3 k4⟩
theorem low_of {p : Program} {loose : List Str} {mean : ExcName → Option Value} {mg mb : Str → Option Value} {s₁ : Shared} (T : Top p loose mean mg mb s₁.heap) : ∃ b o, sysModules < b ∧ s₁.heap.get? b = some o := by
  obtain ⟨_, ⟨o, _, _, ho, _⟩, _⟩ := T.nodigits
  exact ⟨_, o, by decide, ho⟩
theorem bi_boot : ∀ q ∈ biTab, bootBuiltins q.1 = some q.2 ∧ q.1 ≠ "__name__" := by
  simp only [biTab, List.forall_mem_cons]
  refine ⟨?_, ?_, ?_, ?_, ?_, ?_, ?_, ?_, ?_, ?_, ?_, ?_, ?_, fun _ h => nomatch h⟩ <;> exact ⟨by first | rfl | kernel_rfl, by decide +kernel⟩
end Mine

namespace Mine
open PySem

-- 0: is_whole(thing, least, most)
noncomputable def f_is_whole : List S := [
  .ret (.and (.isi (.var 0) .int) (.and (.not (.isi (.var 0) .bool)) (.cmp2 .le .le (.var 1) (.var 0) (.var 2))))]
-- 1: is_place(thing, sign)
noncomputable def f_is_place : List S := [
  .ite (.or (.not (.isi (.var 0) .str)) (.or (.cmp .lt (.len (.var 0)) (.cst (.int 1))) (.cmp .gt (.len (.var 0)) (.gl (Str.ofString "MOST_LETTERS") (.int 12))))) [.ret (.cst (.bool false))] [],
  .for (.one 1) (.var 0) [.ite (.cmp .notin (.var 1) (.gl (Str.ofString "LETTERS") (.str (Str.ofString "abcdefghijklmnopqrstuvwxyz")))) [.ret (.cst (.bool false))] []],
  .ret (.cst (.bool true))]
-- 2: is_ride(thing)
noncomputable def f_is_ride : List S := [
  .ite (.or (.not (.isi (.var 0) .tuple)) (.cmp .ne (.len (.var 0)) (.cst (.int 3)))) [.ret (.cst (.bool false))] [],
  .ite (.or (.not (.call 1 [.sub (.var 0) (.cst (.int 0))])) (.or (.not (.call 1 [.sub (.var 0) (.cst (.int 1))])) (.cmp .eq (.sub (.var 0) (.cst (.int 0))) (.sub (.var 0) (.cst (.int 1)))))) [.ret (.cst (.bool false))] [],
  .ret (.call 0 [.sub (.var 0) (.cst (.int 2)), .cst (.int 1), .gl (Str.ofString "MOST_RIDE") (.int 9999)])]
-- 3: is_trip(thing)
noncomputable def f_is_trip : List S := [
  .ite (.or (.not (.isi (.var 0) .tuple)) (.cmp .ne (.len (.var 0)) (.cst (.int 4)))) [.ret (.cst (.bool false))] [],
  .ite (.or (.not (.call 1 [.sub (.var 0) (.cst (.int 0))])) (.not (.call 1 [.sub (.var 0) (.cst (.int 2))]))) [.ret (.cst (.bool false))] [],
  .ite (.or (.not (.call 0 [.sub (.var 0) (.cst (.int 1)), .cst (.int 0), .gl (Str.ofString "MOST_MINUTE") (.int 99999)])) (.not (.call 0 [.sub (.var 0) (.cst (.int 3)), .cst (.int 0), .gl (Str.ofString "MOST_MINUTE") (.int 99999)]))) [.ret (.cst (.bool false))] [],
  .ret (.cmp .lt (.sub (.var 0) (.cst (.int 1))) (.sub (.var 0) (.cst (.int 3))))]
-- 4: need_all(rides, trips, ride, trip)
noncomputable def f_need_all : List S := [
  .for (.one 2) (.var 0) [.ite (.not (.call 2 [.var 2])) [.stop] []],
  .for (.one 3) (.var 1) [.ite (.not (.call 3 [.var 3])) [.stop] []]]
-- 6: all_roads(rides, trips, found, begin, left, end, come)
noncomputable def f_all_roads : List S := [
  .asg (.one 2) (.listOf (.var 0)),
  .for (.many [3, 4, 5, 6]) (.var 1) [.ite (.cmp .ne (.var 3) (.var 5)) [.expr (.append (.var 2) (.tup [.var 3, .var 5, .bin .sub (.var 6) (.var 4)]))] []],
  .ret (.var 2)]
-- 7: least_from(told, place, found, again, one, other, minutes)
noncomputable def f_least_from : List S := [
  .asg (.one 2) (.dict1 (.var 1) (.cst (.int 0))),
  .asg (.one 3) (.cst (.bool true)),
  .while (.var 3) [.asg (.one 3) (.cst (.bool false)), .for (.many [4, 5, 6]) (.var 0) [.ite (.and (.cmp .isin (.var 4) (.var 2)) (.or (.cmp .notin (.var 5) (.var 2)) (.cmp .lt (.bin .add (.sub (.var 2) (.var 4)) (.var 6)) (.sub (.var 2) (.var 5))))) [.setItem (.var 2) (.var 5) (.bin .add (.sub (.var 2) (.var 4)) (.var 6)), .asg (.one 3) (.cst (.bool true))] []]],
  .ret (.var 2)]
-- 10: _law_cell_at(_law_script, _law_k)
noncomputable def f_law_cell_at : List S := [
  .ite (.cmp .lt (.var 1) (.len (.var 0))) [.ret (.sub (.var 0) (.var 1))] [],
  .ret (.cst (.int 0))]
-- 11: _law_names(_law_cell, _law_many, _law_some, _law_size, _law_place, _law_fill, _law_names_here, _law_k, _law_sign)
noncomputable def f_law_names : List S := [
  .asg (.one 2) (.cst (.str (Str.ofString "abcdefghijklmnopqrstuvwxyz"))),
  .ite (.cmp .eq (.bin .mod (.var 0) (.cst (.int 2))) (.cst (.int 1))) [.ret (.comp (.one 7) (.rng1 (.var 1)) (.bin .mul (.sub (.var 2) (.bin .mod (.bin .fdiv (.var 0) (.cst (.int 2))) (.cst (.int 26)))) (.bin .add (.var 7) (.cst (.int 1)))))] [],
  .asg (.one 0) (.bin .fdiv (.var 0) (.cst (.int 2))),
  .asg (.one 3) (.bin .add (.cst (.int 1)) (.bin .mod (.var 0) (.cst (.int 12)))),
  .asg (.one 4) (.bin .mod (.bin .fdiv (.var 0) (.cst (.int 12))) (.var 3)),
  .asg (.one 5) (.sub (.var 2) (.bin .mod (.bin .fdiv (.var 0) (.cst (.int 144))) (.cst (.int 26)))),
  .asg (.one 6) (.list []),
  .for (.one 7) (.rng1 (.var 1)) [.asg (.one 8) (.sub (.var 2) (.bin .mod (.bin .add (.var 7) (.bin .fdiv (.var 0) (.cst (.int 3744)))) (.cst (.int 26)))), .expr (.append (.var 6) (.bin .add (.bin .add (.bin .mul (.var 5) (.var 4)) (.var 8)) (.bin .mul (.var 5) (.bin .sub (.bin .sub (.var 3) (.cst (.int 1))) (.var 4)))))],
  .ret (.var 6)]
-- 12: _law_rides(_law_script, _law_place, _law_names_here, _law_size, _law_rides_here, _law_k, _law_cell, _law_one, _law_other, _law_minutes)
noncomputable def f_law_rides : List S := [
  .asg (.one 4) (.list []),
  .for (.one 5) (.rng1 (.var 3)) [.asg (.one 6) (.call 10 [.var 0, .bin .add (.var 1) (.var 5)]), .asg (.one 7) (.bin .mod (.var 6) (.len (.var 2))), .asg (.one 8) (.bin .mod (.bin .add (.bin .add (.var 7) (.cst (.int 1))) (.bin .mod (.bin .fdiv (.var 6) (.cst (.int 8))) (.max2 (.cst (.int 1)) (.bin .sub (.len (.var 2)) (.cst (.int 1)))))) (.len (.var 2))), .asg (.one 9) (.bin .add (.cst (.int 1)) (.bin .mod (.bin .fdiv (.var 6) (.cst (.int 64))) (.cst (.int 40)))), .ite (.cmp .eq (.bin .mod (.bin .fdiv (.var 6) (.cst (.int 64))) (.cst (.int 8))) (.cst (.int 1))) [.asg (.one 9) (.bin .add (.cst (.int 1)) (.bin .mod (.bin .fdiv (.var 6) (.cst (.int 512))) (.cst (.int 9999))))] [], .ite (.cmp .ne (.var 7) (.var 8)) [.expr (.append (.var 4) (.tup [.sub (.var 2) (.var 7), .sub (.var 2) (.var 8), .var 9]))] []],
  .ret (.var 4)]
-- 13: _law_trips(_law_script, _law_place, _law_names_here, _law_size, _law_trips_here, _law_k, _law_cell, _law_one, _law_other, _law_begin, _law_least)
noncomputable def f_law_trips : List S := [
  .asg (.one 4) (.list []),
  .for (.one 5) (.rng1 (.var 3)) [.asg (.one 6) (.call 10 [.var 0, .bin .add (.var 1) (.var 5)]), .asg (.one 7) (.sub (.var 2) (.bin .mod (.var 6) (.len (.var 2)))), .asg (.one 8) (.sub (.var 2) (.bin .mod (.bin .fdiv (.var 6) (.cst (.int 13))) (.len (.var 2)))), .asg (.one 9) (.bin .mod (.bin .fdiv (.var 6) (.cst (.int 64))) (.cst (.int 120))), .asg (.one 10) (.bin .add (.cst (.int 1)) (.bin .mod (.bin .fdiv (.var 6) (.cst (.int 7680))) (.cst (.int 25)))), .ite (.cmp .eq (.bin .mod (.bin .fdiv (.var 6) (.cst (.int 64))) (.cst (.int 16))) (.cst (.int 1))) [.asg (.one 9) (.bin .mod (.bin .fdiv (.var 6) (.cst (.int 1024))) (.cst (.int 99000))), .asg (.one 10) (.bin .add (.cst (.int 1)) (.bin .mod (.bin .fdiv (.var 6) (.cst (.int 1024))) (.cst (.int 999))))] [], .ite (.cmp .eq (.bin .mod (.bin .fdiv (.var 6) (.cst (.int 64))) (.cst (.int 16))) (.cst (.int 2))) [.asg (.one 10) (.bin .add (.cst (.int 1)) (.bin .mod (.bin .fdiv (.var 6) (.cst (.int 1024))) (.cst (.int 99000))))] [], .expr (.append (.var 4) (.tup [.var 7, .var 9, .var 8, .bin .add (.var 9) (.var 10)]))],
  .ret (.var 4)]
-- 14: _law_roads(_law_rides_here, _law_trips_here, _law_found, _law_trip)
noncomputable def f_law_roads : List S := [
  .asg (.one 2) (.listOf (.var 0)),
  .for (.one 3) (.var 1) [.ite (.cmp .ne (.sub (.var 3) (.cst (.int 0))) (.sub (.var 3) (.cst (.int 2)))) [.expr (.append (.var 2) (.tup [.sub (.var 3) (.cst (.int 0)), .sub (.var 3) (.cst (.int 2)), .bin .sub (.sub (.var 3) (.cst (.int 3))) (.sub (.var 3) (.cst (.int 1)))]))] []],
  .ret (.var 2)]
-- 15: _law_built(_law_script, _law_first, _law_second, _law_names_here, _law_rides_here, _law_trips_here, _law_step, _law_k)
noncomputable def f_law_built : List S := [
  .asg (.one 1) (.call 10 [.var 0, .cst (.int 0)]),
  .asg (.one 2) (.call 10 [.var 0, .cst (.int 2)]),
  .asg (.one 3) (.call 11 [.call 10 [.var 0, .cst (.int 1)], .bin .add (.cst (.int 1)) (.bin .mod (.var 1) (.cst (.int 6)))]),
  .asg (.one 4) (.call 12 [.var 0, .cst (.int 4), .var 3, .bin .mod (.bin .fdiv (.var 1) (.cst (.int 6))) (.cst (.int 8))]),
  .asg (.one 5) (.call 13 [.var 0, .cst (.int 12), .var 3, .bin .mod (.var 2) (.cst (.int 9))]),
  .ite (.cmp .eq (.bin .mod (.bin .fdiv (.var 2) (.cst (.int 9))) (.cst (.int 4))) (.cst (.int 1))) [.asg (.one 5) (.bin .add (.var 5) (.slc (.var 5) (.cst .none) (.cst (.int 2))))] [],
  .ite (.cmp .eq (.bin .mod (.bin .fdiv (.var 2) (.cst (.int 9))) (.cst (.int 8))) (.cst (.int 2))) [.asg (.one 3) (.call 11 [.call 10 [.var 0, .cst (.int 1)], .cst (.int 12)]), .asg (.one 6) (.sub (.list [.bin .add (.cst (.int 1)) (.bin .mod (.var 1) (.cst (.int 20))), .bin .add (.cst (.int 9990)) (.bin .mod (.var 1) (.cst (.int 9)))]) (.bin .mod (.bin .fdiv (.var 2) (.cst (.int 72))) (.cst (.int 2)))), .asg (.one 4) (.comp (.one 7) (.rng1 (.bin .add (.cst (.int 2)) (.bin .mod (.var 1) (.cst (.int 10))))) (.tup [.sub (.var 3) (.var 7), .sub (.var 3) (.bin .add (.var 7) (.cst (.int 1))), .bin .add (.var 6) (.bin .mod (.var 7) (.cst (.int 2)))])), .asg (.one 5) (.call 13 [.var 0, .cst (.int 12), .var 3, .bin .mod (.var 2) (.cst (.int 5))])] [],
  .ret (.tup [.var 3, .var 4, .var 5])]
-- 22: _law_least(_law_told, _law_place, _law_found, _law_turn, _law_road, _law_minutes)
noncomputable def f_law_least : List S := [
  .asg (.one 2) (.dict1 (.var 1) (.cst (.int 0))),
  .for (.one 3) (.rng1 (.bin .add (.len (.var 0)) (.cst (.int 1)))) [.for (.one 4) (.var 0) [.ite (.cmp .isin (.sub (.var 4) (.cst (.int 0))) (.var 2)) [.asg (.one 5) (.bin .add (.sub (.var 2) (.sub (.var 4) (.cst (.int 0)))) (.sub (.var 4) (.cst (.int 2)))), .ite (.cmp .lt (.var 5) (.get2 (.var 2) (.sub (.var 4) (.cst (.int 1))) (.bin .add (.var 5) (.cst (.int 1))))) [.setItem (.var 2) (.sub (.var 4) (.cst (.int 1))) (.var 5)] []] []]],
  .ret (.var 2)]
-- 30: _law_can(_law_told, _law_one, _law_other, _law_least_here)
noncomputable def f_law_can : List S := [
  .asg (.one 3) (.call 22 [.var 0, .sub (.var 1) (.cst (.int 2))]),
  .ret (.and (.cmp .isin (.sub (.var 2) (.cst (.int 0))) (.var 3)) (.cmp .le (.bin .add (.sub (.var 1) (.cst (.int 3))) (.sub (.var 3) (.sub (.var 2) (.cst (.int 0))))) (.sub (.var 2) (.cst (.int 1)))))]
-- 36: followers(rides, trips, told, found, one, least, row, number, other)
noncomputable def f_followers : List S := [
  .asg (.one 2) (.call 6 [.var 0, .var 1]),
  .asg (.one 3) (.list []),
  .for (.one 4) (.var 1) [.asg (.one 5) (.call 7 [.var 2, .sub (.var 4) (.cst (.int 2))]), .asg (.one 6) (.list []), .forEnum (.many [7, 8]) (.var 1) [.ite (.and (.cmp .isin (.sub (.var 8) (.cst (.int 0))) (.var 5)) (.cmp .le (.bin .add (.sub (.var 4) (.cst (.int 3))) (.sub (.var 5) (.sub (.var 8) (.cst (.int 0))))) (.sub (.var 8) (.cst (.int 1))))) [.expr (.append (.var 6) (.var 7))] []], .expr (.append (.var 3) (.var 6))],
  .ret (.var 3)]
-- 37: is_placed(one, behind, ahead, seen, other)
noncomputable def f_is_placed : List S := [
  .for (.one 4) (.sub (.var 1) (.var 0)) [.ite (.cmp .notin (.var 4) (.var 3)) [.setItem (.var 3) (.var 4) (.cst (.bool true)), .ite (.or (.cmp .notin (.var 4) (.var 2)) (.call 37 [.sub (.var 2) (.var 4), .var 1, .var 2, .var 3])) [.setItem (.var 2) (.var 4) (.var 0), .ret (.cst (.bool true))] []] []],
  .ret (.cst (.bool false))]
-- 38: paired(behind, ahead, one)
noncomputable def f_paired : List S := [
  .asg (.one 1) (.dict0),
  .for (.one 2) (.rng1 (.len (.var 0))) [.expr (.call 37 [.var 2, .var 0, .var 1, .dict0])],
  .ret (.var 1)]
-- 39: rows_of(behind, ahead, after, other, found, number, row)
noncomputable def f_rows_of : List S := [
  .asg (.one 2) (.dict0),
  .for (.one 3) (.var 1) [.setItem (.var 2) (.sub (.var 1) (.var 3)) (.var 3)],
  .asg (.one 4) (.list []),
  .for (.one 5) (.rng1 (.len (.var 0))) [.ite (.cmp .notin (.var 5) (.var 1)) [.asg (.one 6) (.list [.var 5]), .while (.cmp .isin (.sub (.var 6) (.cst (.int (-1)))) (.var 2)) [.expr (.append (.var 6) (.sub (.var 2) (.sub (.var 6) (.cst (.int (-1))))))], .expr (.append (.var 4) (.var 6))] []],
  .ret (.var 4)]
-- 40: apart_of(behind, ahead, firsts, other, come, taken, left, one, number)
noncomputable def f_apart_of : List S := [
  .asg (.one 2) (.dict0),
  .for (.one 3) (.var 1) [.setItem (.var 2) (.sub (.var 1) (.var 3)) (.cst (.bool true))],
  .asg (.one 4) (.dict0),
  .asg (.one 5) (.dict0),
  .asg (.one 6) (.compIf (.one 8) (.rng1 (.len (.var 0))) (.cmp .notin (.var 8) (.var 2)) (.var 8)),
  .while (.cmp .ne (.var 6) (.list [])) [.asg (.one 7) (.pop (.var 6)), .ite (.cmp .notin (.var 7) (.var 4)) [.setItem (.var 4) (.var 7) (.cst (.bool true)), .for (.one 3) (.sub (.var 0) (.var 7)) [.setItem (.var 5) (.var 3) (.cst (.bool true)), .ite (.cmp .isin (.var 3) (.var 1)) [.expr (.append (.var 6) (.sub (.var 1) (.var 3)))] []]] []],
  .ret (.compIf (.one 8) (.rng1 (.len (.var 0))) (.and (.cmp .isin (.var 8) (.var 4)) (.cmp .notin (.var 8) (.var 5))) (.var 8))]
-- 41: plan(rides, trips, behind, ahead)
noncomputable def f_plan : List S := [
  .expr (.call 4 [.var 0, .var 1]),
  .asg (.one 2) (.call 36 [.var 0, .var 1]),
  .asg (.one 3) (.call 38 [.var 2]),
  .ret (.tup [.call 39 [.var 2, .var 3], .call 40 [.var 2, .var 3]])]
-- 58: law(_law_script, _law_trips_here, _law_told, _law_order, _law_deals, _law_number, _law_names_here, _law_rides_here, _law_after, _law_lasts, _law_rows, _law_apart, _law_last, _law_begin, _law_k, _law_one)
noncomputable def f_law_10 : List S := [
  .asg (.many [6, 7, 1]) (.call 15 [.var 0]),
  .asg (.one 1) (.slc (.var 1) (.cst .none) (.cst (.int 6))),
  .asg (.one 2) (.call 14 [.var 7, .var 1]),
  .asg (.one 3) (.comp (.many [13, 5]) (.sortedP (.comp (.one 14) (.rng1 (.len (.var 1))) (.tup [.sub (.sub (.var 1) (.var 14)) (.cst (.int 1)), .var 14]))) (.var 5)),
  .asg (.one 4) (.list [.list []]),
  .for (.one 5) (.var 3) [.asg (.one 8) (.list []), .for (.one 9) (.var 4) [.expr (.append (.var 8) (.sorted (.bin .add (.var 9) (.list [.var 5])))), .for (.one 12) (.var 9) [.ite (.call 30 [.var 2, .sub (.var 1) (.var 12), .sub (.var 1) (.var 5)]) [.expr (.append (.var 8) (.sorted (.bin .add (.compIf (.one 15) (.var 9) (.cmp .ne (.var 15) (.var 12)) (.var 15)) (.list [.var 5]))))] []]], .asg (.one 4) (.list []), .for (.one 9) (.var 8) [.ite (.cmp .notin (.var 9) (.var 4)) [.expr (.append (.var 4) (.var 9))] []]],
  .asg (.many [10, 11]) (.call 41 [.listOf (.var 7), .listOf (.var 1)]),
  .ret (.cmp .eq (.len (.var 10)) (.minOf (.comp (.one 9) (.var 4) (.len (.var 9)))))]
noncomputable def v_is_whole : List Str := [Str.ofString "thing", Str.ofString "least", Str.ofString "most"]
noncomputable def v_is_place : List Str := [Str.ofString "thing", Str.ofString "sign"]
noncomputable def v_is_ride : List Str := [Str.ofString "thing"]
noncomputable def v_is_trip : List Str := [Str.ofString "thing"]
noncomputable def v_need_all : List Str := [Str.ofString "rides", Str.ofString "trips", Str.ofString "ride", Str.ofString "trip"]
noncomputable def v_all_roads : List Str := [Str.ofString "rides", Str.ofString "trips", Str.ofString "found", Str.ofString "begin", Str.ofString "left", Str.ofString "end", Str.ofString "come"]
noncomputable def v_least_from : List Str := [Str.ofString "told", Str.ofString "place", Str.ofString "found", Str.ofString "again", Str.ofString "one", Str.ofString "other", Str.ofString "minutes"]
noncomputable def v_law_cell_at : List Str := [Str.ofString "_law_script", Str.ofString "_law_k"]
noncomputable def v_law_names : List Str := [Str.ofString "_law_cell", Str.ofString "_law_many", Str.ofString "_law_some", Str.ofString "_law_size", Str.ofString "_law_place", Str.ofString "_law_fill", Str.ofString "_law_names_here", Str.ofString "_law_k", Str.ofString "_law_sign"]
noncomputable def v_law_rides : List Str := [Str.ofString "_law_script", Str.ofString "_law_place", Str.ofString "_law_names_here", Str.ofString "_law_size", Str.ofString "_law_rides_here", Str.ofString "_law_k", Str.ofString "_law_cell", Str.ofString "_law_one", Str.ofString "_law_other", Str.ofString "_law_minutes"]
noncomputable def v_law_roads : List Str := [Str.ofString "_law_rides_here", Str.ofString "_law_trips_here", Str.ofString "_law_found", Str.ofString "_law_trip"]
noncomputable def v_law_built : List Str := [Str.ofString "_law_script", Str.ofString "_law_first", Str.ofString "_law_second", Str.ofString "_law_names_here", Str.ofString "_law_rides_here", Str.ofString "_law_trips_here", Str.ofString "_law_step", Str.ofString "_law_k"]
noncomputable def v_law_trips_03 : List Str := [Str.ofString "_law_script", Str.ofString "_law_place", Str.ofString "_law_names_here", Str.ofString "_law_size", Str.ofString "_law_trips_here", Str.ofString "_law_k", Str.ofString "_law_cell", Str.ofString "_law_one", Str.ofString "_law_other", Str.ofString "_law_begin", Str.ofString "_law_least_here"]
noncomputable def v_law_least : List Str := [Str.ofString "_law_told", Str.ofString "_law_place", Str.ofString "_law_found", Str.ofString "_law_turn", Str.ofString "_law_road", Str.ofString "_law_minutes"]
noncomputable def v_law_can : List Str := [Str.ofString "_law_told", Str.ofString "_law_one", Str.ofString "_law_other", Str.ofString "_law_least_here"]
noncomputable def v_followers : List Str := [Str.ofString "rides", Str.ofString "trips", Str.ofString "told", Str.ofString "found", Str.ofString "one", Str.ofString "least", Str.ofString "row", Str.ofString "number", Str.ofString "other"]
noncomputable def v_is_placed : List Str := [Str.ofString "one", Str.ofString "behind", Str.ofString "ahead", Str.ofString "seen", Str.ofString "other"]
noncomputable def v_paired : List Str := [Str.ofString "behind", Str.ofString "ahead", Str.ofString "one"]
noncomputable def v_rows_of : List Str := [Str.ofString "behind", Str.ofString "ahead", Str.ofString "after", Str.ofString "other", Str.ofString "found", Str.ofString "number", Str.ofString "row"]
noncomputable def v_apart_of : List Str := [Str.ofString "behind", Str.ofString "ahead", Str.ofString "firsts", Str.ofString "other", Str.ofString "come", Str.ofString "taken", Str.ofString "left", Str.ofString "one", Str.ofString "number"]
noncomputable def v_plan : List Str := [Str.ofString "rides", Str.ofString "trips", Str.ofString "behind", Str.ofString "ahead"]
noncomputable def v_law_10 : List Str := [Str.ofString "_law_script", Str.ofString "_law_trips_here", Str.ofString "_law_told", Str.ofString "_law_order", Str.ofString "_law_deals", Str.ofString "_law_number", Str.ofString "_law_names_here", Str.ofString "_law_rides_here", Str.ofString "_law_after", Str.ofString "_law_lasts", Str.ofString "_law_rows", Str.ofString "_law_apart", Str.ofString "_law_last", Str.ofString "_law_begin", Str.ofString "_law_k", Str.ofString "_law_one"]
noncomputable def P : Tab := fun i => match i with
  | 0 => some (3, f_is_whole)
  | 1 => some (1, f_is_place)
  | 2 => some (1, f_is_ride)
  | 3 => some (1, f_is_trip)
  | 4 => some (2, f_need_all)
  | 6 => some (2, f_all_roads)
  | 7 => some (2, f_least_from)
  | 10 => some (2, f_law_cell_at)
  | 11 => some (2, f_law_names)
  | 12 => some (4, f_law_rides)
  | 13 => some (4, f_law_trips)
  | 14 => some (2, f_law_roads)
  | 15 => some (1, f_law_built)
  | 22 => some (2, f_law_least)
  | 30 => some (3, f_law_can)
  | 36 => some (2, f_followers)
  | 37 => some (4, f_is_placed)
  | 38 => some (1, f_paired)
  | 39 => some (2, f_rows_of)
  | 40 => some (2, f_apart_of)
  | 41 => some (2, f_plan)
  | 58 => some (1, f_law_10)
  | _ => none
end Mine

namespace Mine
open PySem

noncomputable def Ext (σ σ' : Store) : Prop := ∀ a o, σ a = some o → σ' a = some o
theorem Ext.refl {σ : Store} : Ext σ σ := fun _ _ e => e
theorem Ext.trans {σ σ' σ'' : Store} (h : Ext σ σ') (h' : Ext σ' σ'') : Ext σ σ'' := fun a o e => h' a o (h a o e)
theorem Ext.new {σ : Store} {a : Addr} {o : O} (h : σ a = none) : Ext σ (σ.set a o) := fun b x e => by
  rw [set_ne]; exact e
  rintro rfl; rw [h] at e; cases e
theorem set_set {σ : Store} {a : Addr} {o o' : O} : (σ.set a o).set a o' = σ.set a o' := by
  funext b; simp only [Store.set]; split <;> rfl
theorem set_same {σ : Store} {a : Addr} {o : O} (h : σ a = some o) : σ.set a o = σ := by
  funext b; simp only [Store.set]; split
  · rename_i e; rw [e, h]
  · rfl
/-- a loop by its turns -/
theorem forW_of {ok : Store → Prop} {body : V → Loc → Store → FPost → Prop} {items : List V} {Q : FPost} (I : Nat → Loc → Store → Prop) (hok : ∀ k ρ σ, k ≤ items.length → I k ρ σ → ok σ)
    (step : ∀ k v ρ σ K, items[k]? = some v → I k ρ σ → (∀ ρ' σ', I (k + 1) ρ' σ' → K .next ρ' σ') → (∀ x ρ' σ', Q (.ret x) ρ' σ' → K (.ret x) ρ' σ') → body v ρ σ K)
    (fin : ∀ ρ σ, I items.length ρ σ → Q .next ρ σ) {ρ : Loc} {σ : Store} (h0 : I 0 ρ σ) : forW ok body items ρ σ Q := by
  have key : ∀ m k ρ σ, items.length - k = m → k ≤ items.length → I k ρ σ → forW ok body (items.drop k) ρ σ Q := by
    intro m
    induction m with
    | zero =>
      intro k ρ σ hm hk h
      have : k = items.length := by omega
      subst this
      rw [List.drop_length]
      exact ⟨hok _ _ _ hk h, fin _ _ h⟩
    | succ m ih =>
      intro k ρ σ hm hk h
      have hlt : k < items.length := by omega
      rw [List.drop_eq_getElem_cons hlt]
      refine ⟨hok _ _ _ hk h, step k _ ρ σ _ (List.getElem?_eq_getElem hlt) h (fun ρ' σ' h' => ?_) fun x ρ' σ' h' => h'⟩
      exact ih (k + 1) ρ' σ' (by omega) hlt h'
  have := key items.length 0 ρ σ (by omega) (by omega) h0
  simpa using this
theorem compW_of {ok : Store → Prop} {cnd : V → Store → (Bool → Store → Prop) → Prop} {elt : V → Store → Post → Prop} {items : List V} {Q : List V → Store → Prop} (I : Nat → List V → Store → Prop) (hok : ∀ k acc σ, k ≤ items.length → I k acc σ → ok σ)
    (step : ∀ k v acc σ (K₁ : Bool → Store → Prop) (K₂ : Post), items[k]? = some v → I k acc σ → (∀ σ', (∀ y σ'', I (k + 1) (acc ++ [y]) σ'' → K₂ y σ'') → elt v σ' K₂ → K₁ true σ') → (∀ σ', I (k + 1) acc σ' → K₁ false σ') → (∀ y σ'', I (k + 1) (acc ++ [y]) σ'' → K₂ y σ'') → cnd v σ K₁)
    (fin : ∀ acc σ, I items.length acc σ → Q acc σ) {σ : Store} (h0 : I 0 [] σ) : compW ok cnd elt items [] σ Q := by
  have key : ∀ m k acc σ, items.length - k = m → k ≤ items.length → I k acc σ → compW ok cnd elt (items.drop k) acc σ Q := by
    intro m
    induction m with
    | zero =>
      intro k acc σ hm hk h
      have : k = items.length := by omega
      subst this
      rw [List.drop_length]
      exact ⟨hok _ _ _ hk h, fin _ _ h⟩
    | succ m ih =>
      intro k acc σ hm hk h
      have hlt : k < items.length := by omega
      rw [List.drop_eq_getElem_cons hlt]
      refine ⟨hok _ _ _ hk h, step k _ acc σ _ (fun y σ₂ => compW ok cnd elt (items.drop (k + 1)) (acc ++ [y]) σ₂ Q) (List.getElem?_eq_getElem hlt) h (fun σ' _ h' => ?_) (fun σ' h' => ?_) fun y σ'' h' => ih (k + 1) _ _ (by omega) hlt h'⟩
      · rw [if_pos rfl]; exact h'
      · rw [if_neg (by simp)]; exact ih (k + 1) _ _ (by omega) hlt h'
  have := key items.length 0 [] σ (by omega) (by omega) h0
  simpa using this
/-- a plain comprehension -/
theorem compW_plain {ok : Store → Prop} {b : V → Prop} {elt : V → Store → Post → Prop} {items : List V} {Q : List V → Store → Prop} (I : Nat → List V → Store → Prop) (hb : ∀ v ∈ items, b v) (hok : ∀ k acc σ, k ≤ items.length → I k acc σ → ok σ)
    (step : ∀ k v acc σ (K : Post), items[k]? = some v → I k acc σ → (∀ y σ', I (k + 1) (acc ++ [y]) σ' → K y σ') → elt v σ K)
    (fin : ∀ acc σ, I items.length acc σ → Q acc σ) {σ : Store} (h0 : I 0 [] σ) : compW ok (fun v σ Q => b v ∧ Q true σ) elt items [] σ Q :=
  compW_of I hok (fun k v acc σ K₁ K₂ hv hi h1 _ h3 => ⟨hb v (List.mem_of_getElem? hv), h1 σ h3 (step k v acc σ K₂ hv hi h3)⟩) fin h0
theorem rng_get {n : Int} {k : Nat} {v : V} (h : (rngItems 0 n)[k]? = some v) : v = .int k ∧ (k : Int) < n := by
  unfold rngItems at h
  rw [List.getElem?_map] at h
  have := (Option.map_eq_some_iff).mp h
  obtain ⟨j, hj, rfl⟩ := this
  have h1 := List.getElem?_eq_some_iff.mp hj
  obtain ⟨h2, h3⟩ := h1
  rw [List.getElem_range] at h3
  subst h3
  rw [List.length_range] at h2
  exact ⟨by simp, by omega⟩
theorem rng_len {n : Int} (h : 0 ≤ n) : (rngItems 0 n).length = n.toNat := by
  unfold rngItems; simp
/-- a function's body -/
theorem spec_of {k f np : Nat} {xs : List Mine.S} {vs : List V} {σ : Store} {Q : Post} (hp : P f = some (np, xs)) (hl : vs.length = np) (h : wpSs (specAt P k) xs (fun i => vs[i]?) σ fun fl _ σ' => Q (match fl with | .ret v => v | .next => .none) σ') : specAt P (k + 1) f vs σ Q :=
  ⟨np, xs, hp, hl, h⟩
end Mine

namespace Mine
open PySem

noncomputable def binP (o : BOp) (a b : V) : Option V :=
  match o, a, b with
  | .add, .int i, .int j => some (.int (i + j))
  | .sub, .int i, .int j => some (.int (i - j))
  | .mul, .int i, .int j => if i.natAbs < 2 ^ 60 ∨ j.natAbs < 2 ^ 60 then some (.int (i * j)) else none
  | .fdiv, .int i, .int j => if 0 < j ∧ j < 2 ^ 30 then some (.int (i / j)) else none
  | .mod, .int i, .int j => if 0 < j then some (.int (i % j)) else none
  | .add, .str x, .str y => if x.length + y.length ≤ 1000000 then some (.str (x ++ y)) else none
  | .mul, .str x, .int n => if 0 ≤ n ∧ n ≤ 1000000 ∧ x.length ≤ 12 then some (.str (strRep x n.toNat)) else none
  | _, _, _ => none
theorem nn {C : Prop} {v : V} (h : (none : Option V) = some v) : C := nomatch h
theorem ifP {c : Prop} [Decidable c] {x v : V} (h : (if c then some x else none) = some v) : c ∧ v = x := by
  by_cases hc : c
  · rw [if_pos hc] at h; cases h; exact ⟨hc, rfl⟩
  · rw [if_neg hc] at h; cases h
theorem binP_ok {o : BOp} {a b v : V} {σ : Store} {Q : Post} (h : binP o a b = some v) (q : Q v σ) : wpBin o a b σ Q := by
  cases a with
  | int i =>
    cases b with
    | int j =>
      cases o with
      | add => cases h; exact q
      | sub => cases h; exact q
      | mul => obtain ⟨hc, rfl⟩ := ifP h; exact ⟨hc, q⟩
      | fdiv => obtain ⟨hc, rfl⟩ := ifP h; exact ⟨hc.1, hc.2, q⟩
      | mod => obtain ⟨hc, rfl⟩ := ifP h; exact ⟨hc, q⟩
    | _ => cases o <;> exact nn h
  | str x =>
    cases b with
    | str y =>
      cases o with
      | add => obtain ⟨hc, rfl⟩ := ifP h; exact ⟨hc, q⟩
      | _ => exact nn h
    | int n =>
      cases o with
      | mul => obtain ⟨hc, rfl⟩ := ifP h; exact ⟨hc.1, hc.2.1, hc.2.2, q⟩
      | _ => exact nn h
    | _ => cases o <;> exact nn h
  | _ => cases o <;> exact nn h
noncomputable def getP (σ : Store) : V → V → Option V
  | .ref p, .str x => match σ p with | some (.ds _ es) => some ((look es x).getD .none) | _ => none
  | _, _ => none
noncomputable def maxP : V → V → Option V
  | .int i, .int j => some (.int (max i j))
  | _, _ => none
noncomputable def andP : Option V → Option V → Option V
  | some (.bool true), y => y
  | some (.bool false), _ => some (.bool false)
  | _, _ => none
noncomputable def orP : Option V → Option V → Option V
  | some (.bool true), _ => some (.bool true)
  | some (.bool false), y => y
  | _, _ => none
noncomputable def notP : V → Option V
  | .bool b => some (.bool !b)
  | _ => none
noncomputable def lenP (σ : Store) (v : V) : Option V := match lenV σ v with | some n => if n ≤ 1000000 then some (.int n) else none | none => none
noncomputable def cmp2P (σ : Store) (o p : COp) (a b : V) (c : Option V) : Option V := match cmpV o a b σ with
  | some true => c.bind fun c => (cmpV p b c σ).map .bool
  | some false => some (.bool false)
  | none => none
noncomputable def rngP : V → V → Option V
  | .int i, .int j => some (.rng i j)
  | _, _ => none
mutual
/-- the value of an expression that makes and changes nothing -/
noncomputable def evP (ρ : Loc) (σ : Store) : X → Option V
  | .var i => ρ i
  | .cst v => some v
  | .gl _ v => some v
  | .bin o a b => (evP ρ σ a).bind fun x => (evP ρ σ b).bind fun y => binP o x y
  | .cmp o a b => (evP ρ σ a).bind fun x => (evP ρ σ b).bind fun y => (cmpV o x y σ).map .bool
  | .cmp2 o p a b c => (evP ρ σ a).bind fun x => (evP ρ σ b).bind fun y => cmp2P σ o p x y (evP ρ σ c)
  | .and a b => andP (evP ρ σ a) (evP ρ σ b)
  | .or a b => orP (evP ρ σ a) (evP ρ σ b)
  | .not a => (evP ρ σ a).bind notP
  | .sub a b => (evP ρ σ a).bind fun x => (evP ρ σ b).bind fun y => subV σ x y
  | .tup es => (evPs ρ σ es).map .tup
  | .len a => (evP ρ σ a).bind (lenP σ)
  | .isi a t => (evP ρ σ a).bind fun x => (tyV σ x t).map .bool
  | .max2 a b => (evP ρ σ a).bind fun x => (evP ρ σ b).bind fun y => maxP x y
  | .rng1 b => (evP ρ σ b).bind fun y => rngP (.int 0) y
  | .rng2 a b => (evP ρ σ a).bind fun x => (evP ρ σ b).bind fun y => rngP x y
  | .get1 o k => (evP ρ σ o).bind fun x => (evP ρ σ k).bind fun y => getP σ x y
  | _ => none
noncomputable def evPs (ρ : Loc) (σ : Store) : List X → Option (List V)
  | [] => some []
  | e :: r => (evP ρ σ e).bind fun v => (evPs ρ σ r).map (v :: ·)
end

theorem bind1_inv {p : Option V} {f : V → Option V} {v : V} (h : p.bind f = some v) : ∃ x, p = some x ∧ f x = some v := by
  cases p with
  | none => cases h
  | some x => exact ⟨x, rfl, h⟩
theorem bind2_inv {p q : Option V} {f : V → V → Option V} {v : V} (h : (p.bind fun x => q.bind fun y => f x y) = some v) : ∃ x y, p = some x ∧ q = some y ∧ f x y = some v := by
  cases p with
  | none => cases h
  | some x =>
    cases q with
    | none => cases h
    | some y => exact ⟨x, y, rfl, rfl, h⟩
theorem map_inv {p : Option Bool} {v : V} (h : p.map V.bool = some v) : ∃ r, p = some r ∧ v = .bool r := by
  cases p with
  | none => cases h
  | some r => cases h; exact ⟨r, rfl, rfl⟩
theorem andP_inv {p q : Option V} {v : V} (h : andP p q = some v) : (p = some (.bool true) ∧ q = some v) ∨ (p = some (.bool false) ∧ v = .bool false) := by
  cases p with
  | none => cases h
  | some x =>
    cases x with
    | bool t =>
      cases t with
      | true => exact .inl ⟨rfl, h⟩
      | false => cases h; exact .inr ⟨rfl, rfl⟩
    | _ => exact nn h
theorem orP_inv {p q : Option V} {v : V} (h : orP p q = some v) : (p = some (.bool false) ∧ q = some v) ∨ (p = some (.bool true) ∧ v = .bool true) := by
  cases p with
  | none => cases h
  | some x =>
    cases x with
    | bool t =>
      cases t with
      | false => exact .inl ⟨rfl, h⟩
      | true => cases h; exact .inr ⟨rfl, rfl⟩
    | _ => exact nn h
theorem notP_inv {x v : V} (h : notP x = some v) : ∃ t, x = .bool t ∧ v = .bool !t := by
  cases x with
  | bool t => cases h; exact ⟨t, rfl, rfl⟩
  | _ => exact nn h
theorem lenP_inv {σ : Store} {x v : V} (h : lenP σ x = some v) : ∃ n, lenV σ x = some n ∧ n ≤ 1000000 ∧ v = .int n := by
  unfold lenP at h
  cases hn : lenV σ x with
  | none => rw [hn] at h; cases h
  | some n =>
    rw [hn] at h
    by_cases hz : n ≤ 1000000
    · exact ⟨n, rfl, hz, by have h' := Eq.trans (if_pos hz).symm h; cases h'; rfl⟩
    · exact nn (Eq.trans (if_neg hz).symm h)
theorem maxP_inv {x y v : V} (h : maxP x y = some v) : ∃ i j, x = .int i ∧ y = .int j ∧ v = .int (max i j) := by
  cases x with
  | int i => cases y with
    | int j => cases h; exact ⟨i, j, rfl, rfl, rfl⟩
    | _ => exact nn h
  | _ => exact nn h
theorem rngP_inv {x y v : V} (h : rngP x y = some v) : ∃ i j, x = .int i ∧ y = .int j ∧ v = .rng i j := by
  cases x with
  | int i => cases y with
    | int j => cases h; exact ⟨i, j, rfl, rfl, rfl⟩
    | _ => exact nn h
  | _ => exact nn h
theorem getP_inv {σ : Store} {x y v : V} (h : getP σ x y = some v) : ∃ p z m es, x = .ref p ∧ y = .str z ∧ σ p = some (.ds m es) ∧ v = (look es z).getD .none := by
  cases x with
  | ref p => cases y with
    | str z =>
      cases hp : σ p with
      | none => exact nn (by have h' : (match σ p with | some (.ds _ es) => some ((look es z).getD .none) | _ => none) = some v := h; rw [hp] at h'; exact h')
      | some o =>
        have h' : (match σ p with | some (.ds _ es) => some ((look es z).getD .none) | _ => none) = some v := h
        rw [hp] at h'
        cases o with
        | ds m es => cases h'; exact ⟨p, z, m, es, rfl, rfl, hp, rfl⟩
        | _ => exact nn h'
    | _ => exact nn h
  | _ => exact nn h
theorem cmp2P_inv {σ : Store} {o p : COp} {a b : V} {c : Option V} {v : V} (h : cmp2P σ o p a b c = some v) : (cmpV o a b σ = some true ∧ ∃ z r, c = some z ∧ cmpV p b z σ = some r ∧ v = .bool r) ∨ (cmpV o a b σ = some false ∧ v = .bool false) := by
  unfold cmp2P at h
  cases hc : cmpV o a b σ with
  | none => rw [hc] at h; cases h
  | some t =>
    rw [hc] at h
    cases t with
    | true =>
      obtain ⟨z, h1, h2⟩ := bind1_inv h
      obtain ⟨r, h3, h4⟩ := map_inv h2
      exact .inl ⟨rfl, z, r, h1, h3, h4⟩
    | false => cases h; exact .inr ⟨rfl, rfl⟩
mutual
theorem evP_ok {S : Spec} {ρ : Loc} {σ : Store} : ∀ {e : X} {v : V} {Q : Post}, evP ρ σ e = some v → Q v σ → wpE S e ρ σ Q
  | .var i, v, Q, h, q => ⟨v, h, q⟩
  | .cst v, _, Q, h, q => by cases (h : some v = _); exact q
  | .gl _ v, _, Q, h, q => by cases (h : some v = _); exact q
  | .bin o a b, v, Q, h, q => by
    obtain ⟨x, y, hx, hy, h⟩ := bind2_inv (p := evP ρ σ a) (q := evP ρ σ b) (f := binP o) h
    exact evP_ok (e := a) hx (evP_ok (e := b) hy (binP_ok h q))
  | .cmp o a b, v, Q, h, q => by
    obtain ⟨x, y, hx, hy, h⟩ := bind2_inv (p := evP ρ σ a) (q := evP ρ σ b) (f := fun x y => (cmpV o x y σ).map .bool) h
    obtain ⟨r, h', rfl⟩ := map_inv h
    exact evP_ok (e := a) hx (evP_ok (e := b) hy ⟨r, h', q⟩)
  | .cmp2 o p a b c, v, Q, h, q => by
    obtain ⟨x, y, hx, hy, h⟩ := bind2_inv (p := evP ρ σ a) (q := evP ρ σ b) (f := fun x y => cmp2P σ o p x y (evP ρ σ c)) h
    refine evP_ok (e := a) hx (evP_ok (e := b) hy ?_)
    rcases cmp2P_inv h with ⟨h1, z, r, hz, h2, rfl⟩ | ⟨h1, rfl⟩
    · exact ⟨true, h1, evP_ok (e := c) hz ⟨r, h2, q⟩⟩
    · exact ⟨false, h1, q⟩
  | .and a b, v, Q, h, q => by
    rcases andP_inv (p := evP ρ σ a) (q := evP ρ σ b) h with ⟨hx, hy⟩ | ⟨hx, rfl⟩
    · exact evP_ok (e := a) (Q := asBool fun t σ₁ => if t = true then wpE S b ρ σ₁ Q else Q (.bool false) σ₁) hx (evP_ok (e := b) hy q)
    · exact evP_ok (e := a) (Q := asBool fun t σ₁ => if t = true then wpE S b ρ σ₁ Q else Q (.bool false) σ₁) hx q
  | .or a b, v, Q, h, q => by
    rcases orP_inv (p := evP ρ σ a) (q := evP ρ σ b) h with ⟨hx, hy⟩ | ⟨hx, rfl⟩
    · exact evP_ok (e := a) (Q := asBool fun t σ₁ => if t = true then Q (.bool true) σ₁ else wpE S b ρ σ₁ Q) hx (evP_ok (e := b) hy q)
    · exact evP_ok (e := a) (Q := asBool fun t σ₁ => if t = true then Q (.bool true) σ₁ else wpE S b ρ σ₁ Q) hx q
  | .not a, v, Q, h, q => by
    obtain ⟨x, hx, h⟩ := bind1_inv (p := evP ρ σ a) (f := notP) h
    obtain ⟨t, rfl, rfl⟩ := notP_inv h
    exact evP_ok (e := a) (Q := asBool fun t σ₁ => Q (.bool !t) σ₁) hx q
  | .sub a b, v, Q, h, q => by
    obtain ⟨x, y, hx, hy, h⟩ := bind2_inv (p := evP ρ σ a) (q := evP ρ σ b) (f := subV σ) h
    exact evP_ok (e := a) hx (evP_ok (e := b) hy ⟨v, h, q⟩)
  | .tup es, v, Q, h, q => by
    have h' : (evPs ρ σ es).map V.tup = some v := h
    cases he : evPs ρ σ es with
    | none => rw [he] at h'; cases h'
    | some vs => rw [he] at h'; cases h'; exact evPs_ok (es := es) he q
  | .len a, v, Q, h, q => by
    obtain ⟨x, hx, h⟩ := bind1_inv (p := evP ρ σ a) (f := lenP σ) h
    obtain ⟨n, hn, hz, rfl⟩ := lenP_inv h
    exact evP_ok (e := a) hx ⟨n, hn, hz, q⟩
  | .isi a t, v, Q, h, q => by
    obtain ⟨x, hx, h⟩ := bind1_inv (p := evP ρ σ a) (f := fun x => (tyV σ x t).map .bool) h
    obtain ⟨r, h', rfl⟩ := map_inv h
    exact evP_ok (e := a) hx ⟨r, h', q⟩
  | .max2 a b, v, Q, h, q => by
    obtain ⟨x, y, hx, hy, h⟩ := bind2_inv (p := evP ρ σ a) (q := evP ρ σ b) (f := maxP) h
    obtain ⟨i, j, rfl, rfl, rfl⟩ := maxP_inv h
    exact evP_ok (e := a) hx (evP_ok (e := b) hy ⟨i, j, rfl, rfl, q⟩)
  | .rng1 b, v, Q, h, q => by
    obtain ⟨y, hy, h⟩ := bind1_inv (p := evP ρ σ b) (f := fun y => rngP (.int 0) y) h
    obtain ⟨i, j, h1, rfl, rfl⟩ := rngP_inv h
    cases h1
    exact evP_ok (e := b) hy ⟨j, rfl, q⟩
  | .rng2 a b, v, Q, h, q => by
    obtain ⟨x, y, hx, hy, h⟩ := bind2_inv (p := evP ρ σ a) (q := evP ρ σ b) (f := rngP) h
    obtain ⟨i, j, rfl, rfl, rfl⟩ := rngP_inv h
    exact evP_ok (e := a) hx (evP_ok (e := b) hy ⟨i, j, rfl, rfl, q⟩)
  | .get1 o k, v, Q, h, q => by
    obtain ⟨x, y, hx, hy, h⟩ := bind2_inv (p := evP ρ σ o) (q := evP ρ σ k) (f := getP σ) h
    obtain ⟨p, z, m, es, rfl, rfl, hp, rfl⟩ := getP_inv h
    exact evP_ok (e := o) hx ⟨p, m, es, rfl, hp, evP_ok (e := k) hy ⟨m, es, z, rfl, hp, q⟩⟩
  | .slc .., _, _, h, _ => nn h
  | .rev .., _, _, h, _ => nn h
  | .list .., _, _, h, _ => nn h
  | .dict0, _, _, h, _ => nn h
  | .dict1 .., _, _, h, _ => nn h
  | .comp .., _, _, h, _ => nn h
  | .compIf .., _, _, h, _ => nn h
  | .call .., _, _, h, _ => nn h
  | .listOf .., _, _, h, _ => nn h
  | .dictOf .., _, _, h, _ => nn h
  | .tupleOf .., _, _, h, _ => nn h
  | .minOf .., _, _, h, _ => nn h
  | .sorted .., _, _, h, _ => nn h
  | .sortedP .., _, _, h, _ => nn h
  | .append .., _, _, h, _ => nn h
  | .insert0 .., _, _, h, _ => nn h
  | .pop .., _, _, h, _ => nn h
  | .get2 .., _, _, h, _ => nn h
theorem evPs_ok {S : Spec} {ρ : Loc} {σ : Store} : ∀ {es : List X} {vs : List V} {Q : List V → Store → Prop}, evPs ρ σ es = some vs → Q vs σ → wpEs S es ρ σ Q
  | [], vs, Q, h, q => by cases (h : some [] = _); exact q
  | e :: r, vs, Q, h, q => by
    have h' : ((evP ρ σ e).bind fun v => (evPs ρ σ r).map (v :: ·)) = some vs := h
    cases hv : evP ρ σ e with
    | none => rw [hv] at h'; cases h'
    | some v =>
      rw [hv] at h'
      cases hu : evPs ρ σ r with
      | none => rw [hu] at h'; cases h'
      | some us =>
        rw [hu] at h'
        cases h'
        exact evP_ok (e := e) hv (evPs_ok (es := r) hu q)
end

section
variable {S : Spec} {ρ ρ' : Loc} {σ σ' : Store} {Q : FPost} {r : List Mine.S}

theorem ite_no {c a b : Prop} [Decidable c] (h : ¬ c) (hb : b) : if c then a else b := by rw [if_neg h]; exact hb
theorem ite_yes {c a b : Prop} [Decidable c] (h : c) (ha : a) : if c then a else b := by rw [if_pos h]; exact ha
theorem isDict_L {p : Addr} {m : Bool} {l : List V} (h : σ p = some (.list m l)) : ¬ isDict σ (.ref p) = true := by
  show ¬ (match σ p with | some (.ds ..) => true | some (.di ..) => true | _ => false) = true
  rw [h]; exact fun h => nomatch h
theorem wpSs_append {a b : List Mine.S} : ∀ {ρ σ Q}, wpSs S (a ++ b) ρ σ Q ↔ wpSs S a ρ σ fun f ρ' σ' => match f with | .next => wpSs S b ρ' σ' Q | .ret v => Q (.ret v) ρ' σ' := by
  induction a with
  | nil => exact fun {_ _ _} => Iff.rfl
  | cons s a ih =>
    intro ρ σ Q
    refine iff_of_eq (congrArg (wpS S s ρ σ) ?_)
    funext f ρ' σ'
    cases f with
    | next => exact propext ih
    | ret v => rfl
theorem st_nil (h : Q .next ρ σ) : wpSs S [] ρ σ Q := h
theorem st_asg {i : Nat} {e : X} {v : V} (he : evP ρ σ e = some v) (h : wpSs S r (ρ.set i v) σ Q) : wpSs S (.asg (.one i) e :: r) ρ σ Q := evP_ok (e := e) he ⟨_, rfl, h⟩
theorem st_asgE {i : Nat} {e : X} (h : wpE S e ρ σ fun v σ₁ => wpSs S r (ρ.set i v) σ₁ Q) : wpSs S (.asg (.one i) e :: r) ρ σ Q := by
  exact cast (congrArg (wpE S e ρ σ) (funext fun v => funext fun σ₁ => propext ⟨fun h => ⟨_, rfl, h⟩, fun ⟨_, e, h⟩ => by cases e; exact h⟩)) h
theorem st_manyE {is : List Nat} {e : X} (h : wpE S e ρ σ fun v σ₁ => ∃ ρ', bindT (.many is) v ρ = some ρ' ∧ wpSs S r ρ' σ₁ Q) : wpSs S (.asg (.many is) e :: r) ρ σ Q := h
theorem st_ret {e : X} {v : V} (he : evP ρ σ e = some v) (h : Q (.ret v) ρ σ) : wpSs S (.ret e :: r) ρ σ Q := evP_ok (e := e) he h
theorem st_retE {e : X} (h : wpE S e ρ σ fun v σ₁ => Q (.ret v) ρ σ₁) : wpSs S (.ret e :: r) ρ σ Q := h
theorem st_ifE {c : X} {a b : List Mine.S} (h : wpE S c ρ σ (asBool fun t σ₁ => wpSs S ((if t = true then a else b) ++ r) ρ σ₁ Q)) : wpSs S (.ite c a b :: r) ρ σ Q := by
  refine cast (congrArg (wpE S c ρ σ) (congrArg asBool ?_)) h
  funext t σ₁
  cases t with
  | true => exact propext wpSs_append
  | false => exact propext wpSs_append
theorem st_if {c : X} {a b : List Mine.S} {t : Bool} (he : evP ρ σ c = some (.bool t)) (h : wpSs S ((if t = true then a else b) ++ r) ρ σ Q) : wpSs S (.ite c a b :: r) ρ σ Q := st_ifE (evP_ok he h)
theorem st_yes {c : X} {a b : List Mine.S} (he : evP ρ σ c = some (.bool true)) (h : wpSs S (a ++ r) ρ σ Q) : wpSs S (.ite c a b :: r) ρ σ Q := st_if he h
theorem st_no {c : X} {a b : List Mine.S} (he : evP ρ σ c = some (.bool false)) (h : wpSs S (b ++ r) ρ σ Q) : wpSs S (.ite c a b :: r) ρ σ Q := st_if he h
theorem st_app {o : Nat} {e : X} {p : Addr} {l : List V} {v : V} (ho : ρ o = some (.ref p)) (hp : σ p = some (.list true l)) (he : evP ρ σ e = some v) (hz : l.length ≤ 1000000) (h : wpSs S r ρ (σ.set p (.list true (l ++ [v]))) Q) : wpSs S (.expr (.append (.var o) e) :: r) ρ σ Q := ⟨_, ho, p, l, rfl, hp, evP_ok (e := e) he ⟨l, hp, hz, h⟩⟩
theorem wp_call {f : Nat} {args : List X} {vs : List V} {Q : Post} (ha : evPs ρ σ args = some vs) (h : S f vs σ Q) : wpE S (.call f args) ρ σ Q := evPs_ok (es := args) ha h
theorem st_expr {e : X} (h : wpE S e ρ σ fun v σ₁ => match v with | .none => wpSs S r ρ σ₁ Q | .bool _ => wpSs S r ρ σ₁ Q | _ => False) : wpSs S (.expr e :: r) ρ σ Q := h
theorem st_setS {o i e : X} {p : Addr} {es : List (Str × V)} {x : Str} {v : V} (he : evP ρ σ e = some v) (ho : evP ρ σ o = some (.ref p)) (hi : evP ρ σ i = some (.str x)) (hp : σ p = some (.ds true es)) (hz : es.length ≤ 1000000) (h : wpSs S r ρ (σ.set p (.ds true (put es x v))) Q) : wpSs S (.setItem o i e :: r) ρ σ Q := by
  refine evP_ok (e := e) he (evP_ok (e := o) ho (evP_ok (e := i) hi ?_))
  unfold setV
  refine ⟨p, rfl, ?_⟩
  rw [hp]
  exact ⟨hz, h⟩
theorem st_forL {t : Tgt} {it : X} {body : List Mine.S} {p : Addr} {m : Bool} {l : List V} (hi : evP ρ σ it = some (.ref p)) (hp : σ p = some (.list m l))
    (h : forW (fun σ' => ∃ m', σ' p = some (.list m' l)) (fun v ρ σ Q => ∃ ρ', bindT t v ρ = some ρ' ∧ wpSs S body ρ' σ Q) l ρ σ fun f ρ' σ' => match f with | .next => wpSs S r ρ' σ' Q | .ret v => Q (.ret v) ρ' σ') : wpSs S (.for t it body :: r) ρ σ Q := by
  refine evP_ok (e := it) hi ?_
  refine ite_no (isDict_L hp) ?_
  exact ⟨_, _, .list hp, h⟩
theorem st_forS {t : Tgt} {it : X} {body : List Mine.S} {x : Str} (hi : evP ρ σ it = some (.str x))
    (h : forW (fun _ => True) (fun v ρ σ Q => ∃ ρ', bindT t v ρ = some ρ' ∧ wpSs S body ρ' σ Q) (strItems x) ρ σ fun f ρ' σ' => match f with | .next => wpSs S r ρ' σ' Q | .ret v => Q (.ret v) ρ' σ') : wpSs S (.for t it body :: r) ρ σ Q := by
  refine evP_ok (e := it) hi (ite_no (fun h => nomatch h) ?_)
  exact ⟨_, _, .str, h⟩
theorem st_forR {t : Tgt} {it : X} {body : List Mine.S} {n : Int} (hi : evP ρ σ it = some (.rng 0 n)) (hn : 0 ≤ n ∧ n ≤ 1000000)
    (h : forW (fun _ => True) (fun v ρ σ Q => ∃ ρ', bindT t v ρ = some ρ' ∧ wpSs S body ρ' σ Q) (rngItems 0 n) ρ σ fun f ρ' σ' => match f with | .next => wpSs S r ρ' σ' Q | .ret v => Q (.ret v) ρ' σ') : wpSs S (.for t it body :: r) ρ σ Q := by
  refine evP_ok (e := it) hi (ite_no (fun h => nomatch h) ?_)
  exact ⟨_, _, .rng (by omega), h⟩
end
end Mine

namespace Mine
open PySem
theorem list_sub {σ : Store} {p : Addr} {m : Bool} {l : List V} {i : Int} {v : V} (hp : σ p = some (.list m l)) (h0 : 0 ≤ i) (h : l[i.toNat]? = some v) : subV σ (.ref p) (.int i) = some v := by
  show (match σ p, V.int i with | some (.list _ l), .int i => idxL l i | some (.ds _ es), .str k => look es k | some (.di _ es), .int k => look es k | _, _ => Option.none) = _
  rw [hp]; show idxL l i = _; unfold idxL; rw [if_pos h0]; exact h
theorem eqI_t {i j : Int} {σ : Store} (h : i = j) : cmpV .eq (.int i) (.int j) σ = some true := congrArg some (decide_eq_true h)
theorem eqI_f {i j : Int} {σ : Store} (h : ¬ i = j) : cmpV .eq (.int i) (.int j) σ = some false := congrArg some (decide_eq_false h)
theorem neI_t {i j : Int} {σ : Store} (h : ¬ i = j) : cmpV .ne (.int i) (.int j) σ = some true := congrArg (fun t => some !t) (decide_eq_false h)
theorem neI_f {i j : Int} {σ : Store} (h : i = j) : cmpV .ne (.int i) (.int j) σ = some false := congrArg (fun t => some !t) (decide_eq_true h)
theorem len_list {σ : Store} {a : Addr} {m : Bool} {l : List V} (h : σ a = some (.list m l)) : lenV σ (.ref a) = some l.length := by
  show (match σ a with | some (.list _ l) => some l.length | some (.ds _ es) => some es.length | some (.di _ es) => some es.length | _ => none) = _
  rw [h]
theorem len_map {α : Type} {f : α → V} {σ : Store} {a : Addr} {m : Bool} {l : List α} (h : σ a = some (.list m (l.map f))) : lenV σ (.ref a) = some l.length := by
  rw [len_list h, List.length_map]
theorem binMod {x y : Int} (h : 0 < y) : binP .mod (.int x) (.int y) = some (.int (x % y)) := if_pos h
theorem binMulS {x : Str} {n : Int} (h : 0 ≤ n ∧ n ≤ 1000000 ∧ x.length ≤ 12) : binP .mul (.str x) (.int n) = some (.str (strRep x n.toNat)) := if_pos h
theorem binAddS {x y : Str} (h : x.length + y.length ≤ 1000000) : binP .add (.str x) (.str y) = some (.str (x ++ y)) := if_pos h
theorem wb_add {i j : Int} {σ : Store} {Q : Post} (h : Q (.int (i + j)) σ) : wpBin .add (.int i) (.int j) σ Q := h
theorem asB {Q : Bool → Store → Prop} {t : Bool} {σ : Store} (h : Q t σ) : asBool Q (.bool t) σ := h
section
variable {ρ : Loc} {σ : Store} {a b : X} {x y v : V}
theorem bind2 {f : V → V → Option V} {p q : Option V} {r : Option V} (ha : p = some x) (hb : q = some y) (h : f x y = r) : (p.bind fun x => q.bind fun y => f x y) = r := by rw [ha, hb]; exact h
theorem ev_bin {o : BOp} (ha : evP ρ σ a = some x) (hb : evP ρ σ b = some y) (h : binP o x y = some v) : evP ρ σ (.bin o a b) = some v := bind2 (f := binP o) ha hb h
theorem ev_sub (ha : evP ρ σ a = some x) (hb : evP ρ σ b = some y) (h : subV σ x y = some v) : evP ρ σ (.sub a b) = some v := bind2 (f := subV σ) ha hb h
theorem ev_cmp {o : COp} {t : Bool} (ha : evP ρ σ a = some x) (hb : evP ρ σ b = some y) (h : cmpV o x y σ = some t) : evP ρ σ (.cmp o a b) = some (.bool t) := bind2 (f := fun x y => (cmpV o x y σ).map .bool) ha hb (congrArg (Option.map V.bool) h)
theorem ev_len {n : Nat} (ha : evP ρ σ a = some x) (h : lenV σ x = some n) (hz : n ≤ 1000000) : evP ρ σ (.len a) = some (.int n) := by
  show (evP ρ σ a).bind (lenP σ) = _
  rw [ha]; show lenP σ x = _; unfold lenP; rw [h]; exact if_pos hz
theorem ev_var {i : Nat} (h : ρ i = some v) : evP ρ σ (.var i) = some v := h
theorem ev_rng1 {n : Int} (h : evP ρ σ b = some (.int n)) : evP ρ σ (.rng1 b) = some (.rng 0 n) := by show (evP ρ σ b).bind _ = _; rw [h]; rfl
theorem ev_tup {es : List X} {vs : List V} (h : evPs ρ σ es = some vs) : evP ρ σ (.tup es) = some (.tup vs) := congrArg (Option.map V.tup) h
theorem ev_nil : evPs ρ σ [] = some [] := rfl
theorem ev_cons {es : List X} {vs : List V} (ha : evP ρ σ a = some x) (h : evPs ρ σ es = some vs) : evPs ρ σ (a :: es) = some (x :: vs) := by show (evP ρ σ a).bind _ = _; rw [ha]; exact congrArg (Option.map (x :: ·)) h
theorem ev_and {p q : Bool} (ha : evP ρ σ a = some (.bool p)) (hb : p = true → evP ρ σ b = some (.bool q)) : evP ρ σ (.and a b) = some (.bool (p && q)) := by
  show andP (evP ρ σ a) (evP ρ σ b) = _
  rw [ha]
  cases p with
  | true => exact hb rfl
  | false => rfl
theorem ev_or {p q : Bool} (ha : evP ρ σ a = some (.bool p)) (hb : p = false → evP ρ σ b = some (.bool q)) : evP ρ σ (.or a b) = some (.bool (p || q)) := by
  show orP (evP ρ σ a) (evP ρ σ b) = _
  rw [ha]
  cases p with
  | true => rfl
  | false => exact hb rfl
theorem ev_orF (ha : evP ρ σ a = some (.bool false)) (hb : evP ρ σ b = some (.bool false)) : evP ρ σ (.or a b) = some (.bool false) := ev_or ha fun _ => hb
theorem ev_neI {p q : Int} (ha : evP ρ σ a = some (.int p)) (hb : evP ρ σ b = some (.int q)) : evP ρ σ (.cmp .ne a b) = some (.bool !(decide (p = q))) := ev_cmp ha hb rfl
theorem ev_ltI {p q : Int} (ha : evP ρ σ a = some (.int p)) (hb : evP ρ σ b = some (.int q)) : evP ρ σ (.cmp .lt a b) = some (.bool (decide (p < q))) := ev_cmp ha hb rfl
theorem ev_leI {p q : Int} (ha : evP ρ σ a = some (.int p)) (hb : evP ρ σ b = some (.int q)) : evP ρ σ (.cmp .le a b) = some (.bool (decide (p ≤ q))) := ev_cmp ha hb rfl
theorem ev_add {p q : Int} (ha : evP ρ σ a = some (.int p)) (hb : evP ρ σ b = some (.int q)) : evP ρ σ (.bin .add a b) = some (.int (p + q)) := ev_bin ha hb rfl
theorem ev_subI {p q : Int} (ha : evP ρ σ a = some (.int p)) (hb : evP ρ σ b = some (.int q)) : evP ρ σ (.bin .sub a b) = some (.int (p - q)) := ev_bin ha hb rfl
theorem ev_list {d : Addr} {m : Bool} {l : List V} {i : Int} (h : σ d = some (.list m l)) (h0 : 0 ≤ i) (hg : l[i.toNat]? = some v) (ha : evP ρ σ a = some (.ref d)) (hb : evP ρ σ b = some (.int i)) : evP ρ σ (.sub a b) = some v := ev_sub ha hb (list_sub h h0 hg)
theorem ev_tupAt {l : List V} {i : Int} (h0 : 0 ≤ i) (hg : l[i.toNat]? = some v) (ha : evP ρ σ a = some (.tup l)) (hb : evP ρ σ b = some (.int i)) : evP ρ σ (.sub a b) = some v := ev_sub ha hb (by show idxL l i = _; unfold idxL; rw [if_pos h0]; exact hg)
theorem ev_lenL {d : Addr} {m : Bool} {l : List V} (h : σ d = some (.list m l)) (hz : l.length ≤ 1000000) (ha : evP ρ σ a = some (.ref d)) : evP ρ σ (.len a) = some (.int l.length) := ev_len ha (by show (match σ d with | some (.list _ l) => some l.length | some (.ds _ es) => some es.length | some (.di _ es) => some es.length | _ => none) = _; rw [h]) hz
end

end Mine

namespace Mine
open PySem
/-- a place's name -/
noncomputable def Place (x : Str) : Prop := 1 ≤ x.length ∧ x.length ≤ 12 ∧ ∀ c ∈ x.cps.toList, 97 ≤ c ∧ c ≤ 122
noncomputable def abc : Str := Str.ofString "abcdefghijklmnopqrstuvwxyz"
theorem in_abc {c : Nat} (h : 97 ≤ c ∧ c ≤ 122) : subStr ⟨#[c]⟩ abc = true := by
  have key : ∀ k : Fin 26, subStr ⟨#[97 + k.val]⟩ abc = true := by decide +kernel
  have := key ⟨c - 97, by omega⟩
  simpa [show 97 + (c - 97) = c by omega] using this
theorem ev_cmp2 {ρ : Loc} {σ : Store} {a b c : X} {x y z : V} {o p : COp} {t : Bool} (ha : evP ρ σ a = some x) (hb : evP ρ σ b = some y) (hc : evP ρ σ c = some z) (h1 : cmpV o x y σ = some true) (h2 : cmpV p y z σ = some t) : evP ρ σ (.cmp2 o p a b c) = some (.bool t) := by
  refine bind2 (f := fun x y => cmp2P σ o p x y (evP ρ σ c)) ha hb ?_
  show cmp2P σ o p x y (evP ρ σ c) = _
  unfold cmp2P
  rw [h1, hc]
  exact congrArg (Option.map V.bool) h2
theorem le_true {i j : Int} {σ : Store} (h : i ≤ j) : cmpV .le (.int i) (.int j) σ = some true := congrArg some (decide_eq_true h)
theorem lt_true {i j : Int} {σ : Store} (h : i < j) : cmpV .lt (.int i) (.int j) σ = some true := congrArg some (decide_eq_true h)
theorem lt_false {i j : Int} {σ : Store} (h : ¬ i < j) : cmpV .lt (.int i) (.int j) σ = some false := congrArg some (decide_eq_false h)
theorem gt_false {i j : Int} {σ : Store} (h : ¬ i > j) : cmpV .gt (.int i) (.int j) σ = some false := congrArg some (decide_eq_false h)
theorem eqS_false {x y : Str} {σ : Store} (h : x ≠ y) : cmpV .eq (.str x) (.str y) σ = some false := congrArg some (decide_eq_false h)
theorem is_whole_ok {k : Nat} {i a b : Int} {σ : Store} {Q : Post} (h : a ≤ i ∧ i ≤ b) (q : Q (.bool true) σ) : specAt P (k + 1) 0 [.int i, .int a, .int b] σ Q :=
  spec_of (xs := f_is_whole) rfl rfl (st_ret (v := .bool (true && (true && true))) (ev_and rfl fun _ => ev_and rfl fun _ => ev_cmp2 rfl rfl rfl (le_true h.1) (le_true h.2)) q)
theorem is_place_ok {k : Nat} {x : Str} {σ : Store} {Q : Post} (h : Place x) (q : Q (.bool true) σ) : specAt P (k + 1) 1 [.str x] σ Q := by
  obtain ⟨h1, h2, h3⟩ := h
  have hl : evP (fun i => [V.str x][i]?) σ (.len (.var 0)) = some (.int x.length) := ev_len rfl rfl (Nat.le_trans h2 (by decide))
  refine spec_of (xs := f_is_place) rfl rfl (st_no (ev_orF rfl (ev_orF (ev_cmp hl (y := .int 1) rfl (lt_false (by omega))) (ev_cmp hl (y := .int 12) rfl (gt_false (by omega))))) ?_)
  refine st_forS rfl (forW_of (fun _ _ σ' => σ' = σ) (fun _ _ _ _ _ => trivial) ?_ ?_ rfl)
  · rintro k v ρ σ K hv rfl hn hr
    unfold strItems at hv
    rw [List.getElem?_map] at hv
    obtain ⟨c, hc, rfl⟩ := Option.map_eq_some_iff.mp hv
    have hi : cmpV .notin (.str ⟨#[c]⟩) (.str (Str.ofString "abcdefghijklmnopqrstuvwxyz")) σ = some false := congrArg (fun t => some !t) (in_abc (h3 c (List.mem_of_getElem? hc)))
    exact ⟨_, rfl, st_no (ev_cmp rfl rfl hi) (st_nil (hn _ _ rfl))⟩
  · rintro ρ σ rfl
    exact st_ret rfl q
abbrev Ride := Str × Str × Int
abbrev Trip := Str × Int × Str × Int
noncomputable def rideV (r : Ride) : V := .tup [.str r.1, .str r.2.1, .int r.2.2]
noncomputable def tripV (t : Trip) : V := .tup [.str t.1, .int t.2.1, .str t.2.2.1, .int t.2.2.2]
noncomputable def RideOK (r : Ride) : Prop := Place r.1 ∧ Place r.2.1 ∧ r.1 ≠ r.2.1 ∧ 1 ≤ r.2.2 ∧ r.2.2 ≤ 9999
noncomputable def TripOK (t : Trip) : Prop := Place t.1 ∧ Place t.2.2.1 ∧ 0 ≤ t.2.1 ∧ t.2.1 < t.2.2.2 ∧ t.2.2.2 ≤ 99999
theorem is_ride_ok {k : Nat} {r : Ride} {σ : Store} {Q : Post} (h : RideOK r) (q : Q (.bool true) σ) : specAt P (k + 2) 2 [rideV r] σ Q := by
  obtain ⟨x, y, m⟩ := r
  obtain ⟨h1, h2, h3, h4, h5⟩ := h
  refine spec_of (xs := f_is_ride) rfl rfl (st_no rfl (st_ifE ?_))
  show wpE _ (.call 1 [.sub (.var 0) (.cst (.int 0))]) _ _ _
  refine wp_call (vs := [.str x]) rfl (is_place_ok h1 ?_)
  show wpE _ (.call 1 [.sub (.var 0) (.cst (.int 1))]) _ _ _
  refine wp_call (vs := [.str y]) rfl (is_place_ok h2 ?_)
  show wpE _ (.cmp .eq (.sub (.var 0) (.cst (.int 0))) (.sub (.var 0) (.cst (.int 1)))) _ _ _
  refine evP_ok (ev_cmp (x := .str x) (y := .str y) rfl rfl (eqS_false h3)) ?_
  exact st_retE (wp_call (vs := [.int m, .int 1, .int 9999]) rfl (is_whole_ok ⟨h4, h5⟩ q))
theorem is_trip_ok {k : Nat} {t : Trip} {σ : Store} {Q : Post} (h : TripOK t) (q : Q (.bool true) σ) : specAt P (k + 2) 3 [tripV t] σ Q := by
  obtain ⟨x, l, y, m⟩ := t
  obtain ⟨h1, h2, h3, h4, h5⟩ := h
  have h6 : l ≤ 99999 := Int.le_trans (Int.le_of_lt h4) h5
  have h7 : 0 ≤ m := Int.le_trans h3 (Int.le_of_lt h4)
  refine spec_of (xs := f_is_trip) rfl rfl (st_no rfl (st_ifE ?_))
  show wpE _ (.call 1 [.sub (.var 0) (.cst (.int 0))]) _ _ _
  refine wp_call (vs := [.str x]) rfl (is_place_ok h1 ?_)
  show wpE _ (.call 1 [.sub (.var 0) (.cst (.int 2))]) _ _ _
  refine wp_call (vs := [.str y]) rfl (is_place_ok h2 (st_ifE ?_))
  show wpE _ (.call 0 [.sub (.var 0) (.cst (.int 1)), .cst (.int 0), .gl (Str.ofString "MOST_MINUTE") (.int 99999)]) _ _ _
  refine wp_call (vs := [.int l, .int 0, .int 99999]) rfl (is_whole_ok ⟨h3, h6⟩ ?_)
  show wpE _ (.call 0 [.sub (.var 0) (.cst (.int 3)), .cst (.int 0), .gl (Str.ofString "MOST_MINUTE") (.int 99999)]) _ _ _
  refine wp_call (vs := [.int m, .int 0, .int 99999]) rfl (is_whole_ok ⟨h7, h5⟩ ?_)
  refine asB (asB ?_)
  exact st_ret (ev_cmp (x := .int l) (y := .int m) rfl rfl (lt_true h4)) q
theorem need_all_ok {k : Nat} {a b : Addr} {m m' : Bool} {rs : List Ride} {ts : List Trip} {σ : Store} {Q : Post} (ha : σ a = some (.list m (rs.map rideV))) (hb : σ b = some (.list m' (ts.map tripV))) (hr : ∀ r ∈ rs, RideOK r) (ht : ∀ t ∈ ts, TripOK t) (q : Q .none σ) :
    specAt P (k + 3) 4 [.ref a, .ref b] σ Q := by
  refine spec_of (xs := f_need_all) rfl rfl (st_forL rfl ha (forW_of (fun _ ρ' σ' => σ' = σ ∧ ρ' 1 = some (.ref b)) (fun _ _ _ _ h => by rw [h.1]; exact ⟨_, ha⟩) ?_ ?_ ⟨rfl, rfl⟩))
  · rintro j v ρ σ₁ K hv ⟨rfl, hρ⟩ hn hx
    rw [List.getElem?_map] at hv
    obtain ⟨r, hr', rfl⟩ := Option.map_eq_some_iff.mp hv
    refine ⟨_, rfl, st_ifE ?_⟩
    show wpE _ (.call 2 [.var 2]) _ _ _
    exact wp_call (vs := [rideV r]) rfl (is_ride_ok (hr r (List.mem_of_getElem? hr')) (st_nil (S := specAt P (k + 2)) (hn _ _ ⟨rfl, hρ⟩)))
  · rintro ρ σ₁ ⟨rfl, hρ⟩
    refine st_forL (ev_var hρ) hb (forW_of (fun _ ρ' σ' => σ' = σ₁) (fun _ _ _ _ h => by rw [h]; exact ⟨_, hb⟩) ?_ ?_ rfl)
    · rintro j v ρ σ K hv rfl hn hx
      rw [List.getElem?_map] at hv
      obtain ⟨t, ht', rfl⟩ := Option.map_eq_some_iff.mp hv
      refine ⟨_, rfl, st_ifE ?_⟩
      show wpE _ (.call 3 [.var 3]) _ _ _
      exact wp_call (vs := [tripV t]) rfl (is_trip_ok (ht t (List.mem_of_getElem? ht')) (st_nil (S := specAt P (k + 2)) (hn _ _ rfl)))
    · rintro ρ σ rfl
      exact st_nil q
end Mine

namespace Mine
open PySem
noncomputable def tripRoad (t : Trip) : List Ride := if t.1 = t.2.2.1 then [] else [(t.1, t.2.2.1, t.2.2.2 - t.2.1)]
noncomputable def roadsOf (rs : List Ride) (ts : List Trip) : List Ride := rs ++ ts.flatMap tripRoad
theorem tripRoad_len (ts : List Trip) : (ts.flatMap tripRoad).length ≤ ts.length := by
  induction ts with
  | nil => simp
  | cons t ts ih =>
    rw [List.flatMap_cons, List.length_append, List.length_cons]
    have : (tripRoad t).length ≤ 1 := by unfold tripRoad; split <;> simp
    omega
theorem take_more {α : Type} {l : List α} {k : Nat} {x : α} (h : l[k]? = some x) : l.take (k + 1) = l.take k ++ [x] := by
  rw [List.take_add_one, h]; rfl
theorem neS_false {x y : Str} {σ : Store} (h : x = y) : cmpV .ne (.str x) (.str y) σ = some false := congrArg (fun t => some !t) (decide_eq_true h)
theorem neS_true {x y : Str} {σ : Store} (h : x ≠ y) : cmpV .ne (.str x) (.str y) σ = some true := congrArg (fun t => some !t) (decide_eq_false h)
theorem seq_list {σ : Store} {a : Addr} {m : Bool} {l : List V} (h : σ a = some (.list m l)) : seqOf σ (.ref a) = some l := by
  show (match σ a with | some (.list _ l) => some l | _ => none) = _
  rw [h]
theorem flat_same {x y : Str} {l c : Int} (h : x = y) : [((x, l, y, c) : Trip)].flatMap tripRoad = [] := by
  show tripRoad (x, l, y, c) ++ [] = []
  rw [List.append_nil]; exact if_pos h
theorem flat_other {x y : Str} {l c : Int} (h : x ≠ y) : [((x, l, y, c) : Trip)].flatMap tripRoad = [(x, y, c - l)] := by
  show tripRoad (x, l, y, c) ++ [] = _
  rw [List.append_nil]; exact if_neg h
theorem take_len {α : Type} {l : List α} {k : Nat} : (l.take k).length ≤ l.length := by simp; omega
theorem roads_small {rs : List Ride} {ts : List Trip} {j : Nat} (hz : rs.length + ts.length ≤ 1000) : ((rs ++ (ts.take j).flatMap tripRoad).map rideV).length ≤ 1000000 := by
  have h1 := tripRoad_len (ts.take j)
  have h2 := take_len (l := ts) (k := j)
  rw [List.length_map, List.length_append]; omega
theorem all_roads_ok {k : Nat} {a b : Addr} {m m' : Bool} {rs : List Ride} {ts : List Trip} {σ : Store} {Q : Post} (ha : σ a = some (.list m (rs.map rideV))) (hb : σ b = some (.list m' (ts.map tripV))) (hz : rs.length + ts.length ≤ 1000)
    (q : ∀ d, σ d = none → Q (.ref d) (σ.set d (.list true ((roadsOf rs ts).map rideV)))) : specAt P (k + 1) 6 [.ref a, .ref b] σ Q := by
  refine spec_of (xs := f_all_roads) rfl rfl ?_
  unfold f_all_roads
  refine st_asgE ?_
  refine ⟨_, rfl, _, seq_list ha, by rw [List.length_map]; omega, fun d hd => ?_⟩
  have hbd : b ≠ d := by rintro rfl; rw [hd] at hb; cases hb
  have hb' : ∀ o, (σ.set d o) b = some (.list m' (ts.map tripV)) := fun o => by rw [set_ne hbd]; exact hb
  refine st_forL (p := b) rfl (hb' _) (forW_of (fun j ρ' σ' => σ' = σ.set d (.list true ((rs ++ (ts.take j).flatMap tripRoad).map rideV)) ∧ ρ' 2 = some (.ref d)) (fun _ _ _ _ h => by rw [h.1]; exact ⟨_, hb' _⟩) ?_ ?_ ⟨by rw [List.take_zero, List.flatMap_nil, List.append_nil], rfl⟩)
  · rintro j v ρ _ K hv ⟨rfl, hρ⟩ hn hx
    rw [List.getElem?_map] at hv
    obtain ⟨⟨x, l, y, c⟩, ht', rfl⟩ := Option.map_eq_some_iff.mp hv
    refine ⟨_, rfl, ?_⟩
    by_cases hxy : x = y
    · refine st_no (ev_cmp (x := .str x) (y := .str y) rfl rfl (neS_false hxy)) (st_nil (hn _ _ ⟨?_, hρ⟩))
      rw [take_more ht', List.flatMap_append, flat_same hxy, List.append_nil]
    · refine st_yes (ev_cmp (x := .str x) (y := .str y) rfl rfl (neS_true hxy)) (st_app (v := rideV (x, y, c - l)) hρ set_self rfl ?_ (st_nil (hn _ _ ⟨?_, hρ⟩)))
      · exact roads_small hz
      · rw [take_more ht', set_set, List.flatMap_append, flat_other hxy, ← List.append_assoc, List.map_append (l₂ := [_])]; rfl
  · rintro ρ σ' ⟨rfl, hρ⟩
    refine st_ret (v := .ref d) hρ ?_
    rw [List.length_map, List.take_length]
    exact q d hd
theorem law_roads_ok {k : Nat} {a b : Addr} {m m' : Bool} {rs : List Ride} {ts : List Trip} {σ : Store} {Q : Post} (ha : σ a = some (.list m (rs.map rideV))) (hb : σ b = some (.list m' (ts.map tripV))) (hz : rs.length + ts.length ≤ 1000)
    (q : ∀ d, σ d = none → Q (.ref d) (σ.set d (.list true ((roadsOf rs ts).map rideV)))) : specAt P (k + 1) 14 [.ref a, .ref b] σ Q := by
  refine spec_of (xs := f_law_roads) rfl rfl ?_
  unfold f_law_roads
  refine st_asgE ?_
  refine ⟨_, rfl, _, seq_list ha, by rw [List.length_map]; omega, fun d hd => ?_⟩
  have hbd : b ≠ d := by rintro rfl; rw [hd] at hb; cases hb
  have hb' : ∀ o, (σ.set d o) b = some (.list m' (ts.map tripV)) := fun o => by rw [set_ne hbd]; exact hb
  refine st_forL (p := b) rfl (hb' _) (forW_of (fun j ρ' σ' => σ' = σ.set d (.list true ((rs ++ (ts.take j).flatMap tripRoad).map rideV)) ∧ ρ' 2 = some (.ref d)) (fun _ _ _ _ h => by rw [h.1]; exact ⟨_, hb' _⟩) ?_ ?_ ⟨by rw [List.take_zero, List.flatMap_nil, List.append_nil], rfl⟩)
  · rintro j v ρ _ K hv ⟨rfl, hρ⟩ hn hx
    rw [List.getElem?_map] at hv
    obtain ⟨⟨x, l, y, c⟩, ht', rfl⟩ := Option.map_eq_some_iff.mp hv
    refine ⟨_, rfl, ?_⟩
    by_cases hxy : x = y
    · refine st_no (ev_cmp (x := .str x) (y := .str y) rfl rfl (neS_false hxy)) (st_nil (hn _ _ ⟨?_, hρ⟩))
      rw [take_more ht', List.flatMap_append, flat_same hxy, List.append_nil]
    · refine st_yes (ev_cmp (x := .str x) (y := .str y) rfl rfl (neS_true hxy)) (st_app (v := rideV (x, y, c - l)) hρ set_self rfl ?_ (st_nil (hn _ _ ⟨?_, hρ⟩)))
      · exact roads_small hz
      · rw [take_more ht', set_set, List.flatMap_append, flat_other hxy, ← List.append_assoc, List.map_append (l₂ := [_])]; rfl
  · rintro ρ σ' ⟨rfl, hρ⟩
    refine st_ret (v := .ref d) hρ ?_
    rw [List.length_map, List.take_length]
    exact q d hd
/-- the script's cell -/
noncomputable def cellAt (ns : List Int) (k : Nat) : Int := ns[k]?.getD 0
theorem cell_ok {k : Nat} {a : Addr} {m : Bool} {ns : List Int} {j : Nat} {σ : Store} {Q : Post} (ha : σ a = some (.list m (ns.map .int))) (hz : ns.length ≤ 63) (q : Q (.int (cellAt ns j)) σ) : specAt P (k + 1) 10 [.ref a, .int j] σ Q := by
  refine spec_of (xs := f_law_cell_at) rfl rfl ?_
  unfold f_law_cell_at
  have hl : evP (fun i => [V.ref a, .int j][i]?) σ (.len (.var 0)) = some (.int ns.length) := by
    have := ev_lenL (ρ := fun i => [V.ref a, .int j][i]?) (a := .var 0) ha (by rw [List.length_map]; exact Nat.le_trans hz (by decide)) rfl
    rw [List.length_map] at this; exact this
  by_cases h : j < ns.length
  · refine st_yes (ev_cmp rfl hl (lt_true (Int.ofNat_lt.mpr h))) (st_ret (v := .int (cellAt ns j)) (ev_list ha (Int.ofNat_nonneg j) ?_ rfl rfl) q)
    unfold cellAt
    rw [Int.toNat_natCast, List.getElem?_map, List.getElem?_eq_getElem h]; rfl
  · refine st_no (ev_cmp rfl hl (lt_false fun h' => h (Int.ofNat_lt.mp h'))) (st_ret rfl ?_)
    have : cellAt ns j = 0 := by unfold cellAt; rw [List.getElem?_eq_none (Nat.le_of_not_lt h)]; rfl
    rw [this] at q; exact q
end Mine

namespace Mine
open PySem

/-! least minutes, in plain words -/
abbrev Es := List (Str × Int)
noncomputable def esV (es : Es) : List (Str × V) := es.map fun e => (e.1, V.int e.2)
noncomputable def getE (es : Es) (x : Str) : Option Int := (es.find? fun e => e.1 = x).map (·.2)
noncomputable def putE (es : Es) (x : Str) (v : Int) : Es := if es.any (fun e => e.1 = x) then es.map (fun e => if e.1 = x then (e.1, v) else e) else es ++ [(x, v)]
theorem look_esV (es : Es) (x : Str) : look (esV es) x = (getE es x).map V.int := by
  unfold look esV getE
  induction es with
  | nil => rfl
  | cons e es ih =>
    simp only [List.map_cons, List.find?_cons]
    by_cases h : e.1 = x
    · simp [h]
    · simpa [h] using ih
theorem put_esV (es : Es) (x : Str) (v : Int) : put (esV es) x (.int v) = esV (putE es x v) := by
  unfold put putE esV
  have : (es.map fun e => (e.1, V.int e.2)).any (fun e => e.1 = x) = es.any (fun e => e.1 = x) := by
    rw [List.any_map]; rfl
  rw [this]
  split
  · rw [List.map_map, List.map_map]
    refine List.map_congr_left fun e _ => ?_
    simp only [Function.comp]
    split <;> rfl
  · simp
theorem any_get (es : Es) (x : Str) : es.any (fun e => e.1 = x) = (getE es x).isSome := by
  unfold getE
  induction es with
  | nil => rfl
  | cons e es ih =>
    simp only [List.any_cons, List.find?_cons]
    by_cases h : e.1 = x
    · simp [h]
    · simpa [h] using ih
theorem get_put (es : Es) (x y : Str) (v : Int) : getE (putE es x v) y = if y = x then some v else getE es y := by
  unfold putE
  split
  · rename_i h
    induction es with
    | nil => simp at h
    | cons e es ih =>
      simp only [getE, List.map_cons, List.find?_cons] at ih ⊢
      by_cases he : e.1 = x
      · simp only [he, if_true]
        by_cases hy : y = x
        · simp [hy]
        · simp only [hy, if_false, show ¬ (x = y) from fun z => hy z.symm, decide_false]
          by_cases h2 : (es.any fun e => e.1 = x) = true
          · have := ih h2
            simpa [hy] using this
          · have h3 : ∀ e ∈ es, ¬ e.1 = x := fun e he' z => h2 (List.any_eq_true.mpr ⟨e, he', by simpa using z⟩)
            have : es.map (fun e => if e.1 = x then (e.1, v) else e) = es := by
              conv => rhs; rw [← List.map_id es]
              refine List.map_congr_left fun e he' => ?_
              rw [if_neg (h3 e he')]; rfl
            rw [this]
      · simp only [he, if_false]
        have h2 : (es.any fun e => e.1 = x) = true := by simpa [he] using h
        by_cases hy : e.1 = y
        · simp only [hy, decide_true]
          have : ¬ (y = x) := fun z => he (hy.trans z)
          simp [this]
        · simp only [hy, decide_false]
          exact ih h2
  · rename_i h
    have h3 : getE es x = none := by
      have := any_get es x
      rw [Bool.eq_false_iff.mpr h] at this
      cases hg : getE es x with
      | none => rfl
      | some _ => rw [hg] at this; cases this
    unfold getE at h3 ⊢
    rw [List.find?_append]
    by_cases hy : y = x
    · subst hy
      have h4 : es.find? (fun e => e.1 = y) = none := by
        cases hf : es.find? (fun e => decide (e.1 = y)) with
        | none => rfl
        | some _ => rw [hf] at h3; cases h3
      rw [h4]; simp
    · have : ¬ (x = y) := fun z => hy z.symm
      simp [hy, this]
theorem keys_put (es : Es) (x : Str) (v : Int) : (putE es x v).map (·.1) = if (getE es x).isSome = true then es.map (·.1) else es.map (·.1) ++ [x] := by
  unfold putE
  rw [any_get]
  split
  · rw [List.map_map]
    refine List.map_congr_left fun e _ => ?_
    simp only [Function.comp]; split <;> rfl
  · simp
theorem get_mem {es : Es} {x : Str} {v : Int} (h : getE es x = some v) : (x, v) ∈ es := by
  unfold getE at h
  obtain ⟨e, he, rfl⟩ := Option.map_eq_some_iff.mp h
  have h1 := List.mem_of_find?_eq_some he
  have h2 := List.find?_some he
  simp only [decide_eq_true_eq] at h2
  rw [← h2]; exact h1
theorem mem_get {es : Es} (hn : (es.map (·.1)).Nodup) {e : Str × Int} (h : e ∈ es) : getE es e.1 = some e.2 := by
  unfold getE
  induction es with
  | nil => cases h
  | cons a es ih =>
    simp only [List.map_cons, List.nodup_cons] at hn
    rw [List.find?_cons]
    rcases List.mem_cons.mp h with rfl | h
    · simp
    · have : ¬ (a.1 = e.1) := fun z => hn.1 (z ▸ List.mem_map.mpr ⟨e, h, rfl⟩)
      simp only [this, decide_false]
      exact ih hn.2 h
noncomputable def sumE (es : Es) : Nat := (es.map fun e => e.2.toNat).sum
theorem sum_le {α : Type} {f g : α → Nat} : ∀ {l : List α}, (∀ e ∈ l, f e ≤ g e) → (l.map f).sum ≤ (l.map g).sum
  | [], _ => by simp
  | a :: l, h => by
    simp only [List.map_cons, List.sum_cons]
    have := h a (.head _)
    have := sum_le (l := l) fun e he => h e (List.mem_cons_of_mem _ he)
    omega
theorem sum_lt {α : Type} {f g : α → Nat} : ∀ {l : List α}, (∀ e ∈ l, f e ≤ g e) → (∃ e ∈ l, f e < g e) → (l.map f).sum < (l.map g).sum
  | [], _, h => by obtain ⟨_, h, _⟩ := h; cases h
  | a :: l, h, h' => by
    simp only [List.map_cons, List.sum_cons]
    have h1 := h a (.head _)
    have h2 := sum_le (l := l) fun e he => h e (List.mem_cons_of_mem _ he)
    obtain ⟨e, he, hlt⟩ := h'
    rcases List.mem_cons.mp he with rfl | he
    · omega
    · have := sum_lt (l := l) (fun e he => h e (List.mem_cons_of_mem _ he)) ⟨e, he, hlt⟩
      omega
theorem nodup_len {α : Type} [DecidableEq α] : ∀ {l m : List α}, l.Nodup → (∀ x ∈ l, x ∈ m) → l.length ≤ m.length
  | [], _, _, _ => by simp
  | x :: l, m, hn, h => by
    rw [List.nodup_cons] at hn
    have hx := h x (.head _)
    have := nodup_len (l := l) (m := m.erase x) hn.2 fun y hy => (List.mem_erase_of_ne fun z => hn.1 (by rw [← z]; exact hy)).mpr (h y (List.mem_cons_of_mem _ hy))
    rw [List.length_erase_of_mem hx] at this
    have : 0 < m.length := List.length_pos_of_mem hx
    simp only [List.length_cons]; omega
noncomputable def relax (es : Es) (r : Ride) : Option Es :=
  match getE es r.1 with
  | none => none
  | some d => match getE es r.2.1 with
    | none => some (putE es r.2.1 (d + r.2.2))
    | some d' => if d + r.2.2 < d' then some (putE es r.2.1 (d + r.2.2)) else none
noncomputable def passStep (p : Es × Bool) (r : Ride) : Es × Bool := match relax p.1 r with | none => p | some e => (e, true)
structure EInv (roads : List Ride) (place : Str) (es : Es) : Prop where
  zero : getE es place = some 0
  pos : ∀ x v, getE es x = some v → 0 ≤ v
  back : ∀ x v, getE es x = some v → x ≠ place → ∃ r ∈ roads, r.2.1 = x ∧ ∃ d, getE es r.1 = some d ∧ d + r.2.2 ≤ v
  nd : (es.map (·.1)).Nodup
  sub : ∀ x ∈ es.map (·.1), x ∈ place :: roads.map (·.2.1)
theorem EInv.len {roads : List Ride} {place : Str} {es : Es} (h : EInv roads place es) : es.length ≤ roads.length + 1 := by
  have := nodup_len h.nd h.sub
  simpa using this
noncomputable def less (a b : Es) : Prop := b.length < a.length ∨ (a.length = b.length ∧ sumE a < sumE b)
theorem less.trans {a b c : Es} (h : less a b) (h' : less b c) : less a c := by
  unfold less at *
  omega
theorem relax_inv {roads : List Ride} {place : Str} (hp : ∀ r ∈ roads, 1 ≤ r.2.2) {es es' : Es} {r : Ride} (hr : r ∈ roads) (h : EInv roads place es) (e : relax es r = some es') : EInv roads place es' ∧ less es' es := by
  unfold relax at e
  split at e
  · cases e
  · rename_i d hd
    have hd0 := h.pos _ _ hd
    have hm := hp r hr
    have goal : ∀ (hc : ∀ v, getE es r.2.1 = some v → d + r.2.2 < v), EInv roads place (putE es r.2.1 (d + r.2.2)) ∧ less (putE es r.2.1 (d + r.2.2)) es := by
      intro hc
      have hne : r.2.1 ≠ place := fun z => by
        have := hc 0 (by rw [z]; exact h.zero)
        omega
      have self : r.1 ≠ r.2.1 := fun z => by
        have := hc d (by rw [← z]; exact hd)
        omega
      refine ⟨⟨?_, ?_, ?_, ?_, ?_⟩, ?_⟩
      · rw [get_put, if_neg (fun z => hne z.symm)]; exact h.zero
      · intro x v hv
        rw [get_put] at hv
        split at hv
        · cases hv; omega
        · exact h.pos _ _ hv
      · intro x v hv hx
        rw [get_put] at hv
        split at hv
        · rename_i hxe
          cases hv
          exact ⟨r, hr, hxe.symm, d, by rw [get_put, if_neg self]; exact hd, by omega⟩
        · rename_i hxe
          obtain ⟨r', hr', h1, d', h2, h3⟩ := h.back x v hv hx
          refine ⟨r', hr', h1, ?_⟩
          rw [get_put]
          by_cases hz : r'.1 = r.2.1
          · rw [if_pos hz]
            have := hc d' (by rw [← hz]; exact h2)
            exact ⟨_, rfl, by omega⟩
          · rw [if_neg hz]; exact ⟨d', h2, h3⟩
      · rw [keys_put]
        split
        · exact h.nd
        · rename_i hs
          rw [List.nodup_append]
          refine ⟨h.nd, by simp, fun a ha b hb => ?_⟩
          simp at hb; subst hb
          rintro rfl
          obtain ⟨e, he, h1⟩ := List.mem_map.mp ha
          have := mem_get h.nd he
          rw [h1] at this
          rw [this] at hs; exact hs rfl
      · intro x hx
        rw [keys_put] at hx
        split at hx
        · exact h.sub x hx
        · rcases List.mem_append.mp hx with hx | hx
          · exact h.sub x hx
          · simp at hx; subst hx
            exact List.mem_cons_of_mem _ (List.mem_map.mpr ⟨r, hr, rfl⟩)
      · unfold less
        cases hg : getE es r.2.1 with
        | none =>
          left
          have := congrArg List.length (keys_put es r.2.1 (d + r.2.2))
          rw [hg] at this
          simp at this
          omega
        | some v =>
          right
          have hl := congrArg List.length (keys_put es r.2.1 (d + r.2.2))
          rw [hg] at hl
          simp at hl
          refine ⟨hl, ?_⟩
          have hlt := hc v hg
          have hv := h.pos _ _ hg
          unfold sumE putE
          rw [any_get, hg]
          simp only [Option.isSome_some, if_true, List.map_map]
          refine sum_lt (fun e he => ?_) ⟨(r.2.1, v), get_mem hg, ?_⟩
          · simp only [Function.comp]
            split
            · rename_i he1
              have := mem_get h.nd he
              rw [he1, hg] at this
              cases this
              simp only; omega
            · exact Nat.le_refl _
          · simp only [Function.comp, if_true]; omega
    split at e
    · rename_i hg
      cases e
      exact goal fun v hv => by rw [hg] at hv; cases hv
    · rename_i d' hg
      split at e
      · rename_i hlt
        cases e
        exact goal fun v hv => by rw [hg] at hv; cases hv; exact hlt
      · cases e
theorem pass_inv {roads : List Ride} {place : Str} (hp : ∀ r ∈ roads, 1 ≤ r.2.2) : ∀ {rs : List Ride} {p : Es × Bool}, (∀ r ∈ rs, r ∈ roads) → EInv roads place p.1 →
    EInv roads place (rs.foldl passStep p).1 ∧ ((rs.foldl passStep p = p ∧ ∀ r ∈ rs, relax p.1 r = none) ∨ ((rs.foldl passStep p).2 = true ∧ less (rs.foldl passStep p).1 p.1))
  | [], p, _, h => ⟨h, .inl ⟨rfl, fun _ h => by cases h⟩⟩
  | r :: rs, p, hs, h => by
    simp only [List.foldl_cons]
    have hs' : ∀ r ∈ rs, r ∈ roads := fun x hx => hs x (List.mem_cons_of_mem _ hx)
    cases hr : relax p.1 r with
    | none =>
      have e : passStep p r = p := by unfold passStep; rw [hr]
      rw [e]
      obtain ⟨h1, h2⟩ := pass_inv hp hs' h
      refine ⟨h1, h2.imp (fun ⟨a, b⟩ => ⟨a, fun x hx => ?_⟩) id⟩
      rcases List.mem_cons.mp hx with rfl | hx
      · exact hr
      · exact b x hx
    | some es' =>
      have e : passStep p r = (es', true) := by unfold passStep; rw [hr]
      rw [e]
      obtain ⟨h3, h4⟩ := relax_inv hp (hs r (.head _)) h hr
      obtain ⟨h1, h2⟩ := pass_inv (p := (es', true)) hp hs' h3
      refine ⟨h1, .inr ?_⟩
      rcases h2 with ⟨a, b⟩ | ⟨a, b⟩
      · rw [a]; exact ⟨rfl, h4⟩
      · exact ⟨a, b.trans h4⟩
end Mine

namespace Mine
open PySem
theorem st_while {S : Spec} {ρ : Loc} {σ : Store} {Q : FPost} {r : List Mine.S} {c : X} {body : List Mine.S} {n : Nat} (h : whileW (fun ρ σ Q => wpE S c ρ σ (asBool Q)) (fun ρ σ Q => wpSs S body ρ σ Q) n ρ σ fun f ρ' σ' => match f with | .next => wpSs S r ρ' σ' Q | .ret v => Q (.ret v) ρ' σ') : wpSs S (.while c body :: r) ρ σ Q := by
  exact ⟨n, h⟩
theorem in_ds {σ : Store} {d : Addr} {m : Bool} {es : Es} {x : Str} (h : σ d = some (.ds m (esV es))) : inV σ (.str x) (.ref d) = some (getE es x).isSome := by
  show (match σ d with | some (.list _ l) => inL σ (.str x) l | some (.ds _ es) => some (look es x).isSome | some (.di _ es) => none | _ => none) = _
  rw [h]
  show some (look (esV es) x).isSome = _
  rw [look_esV]; cases getE es x <;> rfl
theorem sub_ds {σ : Store} {d : Addr} {m : Bool} {es : Es} {x : Str} (h : σ d = some (.ds m (esV es))) : subV σ (.ref d) (.str x) = (getE es x).map .int := by
  show (match σ d, V.str x with | some (.list _ l), .int i => idxL l i | some (.ds _ es), .str k => look es k | some (.di _ es), .int k => look es k | _, _ => Option.none) = _
  rw [h]
  exact look_esV es x
section
variable {ρ : Loc} {σ : Store} {a b : X} {x y v : V}
theorem ev_in {d : Addr} {m : Bool} {es : Es} {z : Str} (h : σ d = some (.ds m (esV es))) (ha : evP ρ σ a = some (.str z)) (hb : evP ρ σ b = some (.ref d)) : evP ρ σ (.cmp .isin a b) = some (.bool (getE es z).isSome) := ev_cmp ha hb (in_ds h)
theorem ev_nin {d : Addr} {m : Bool} {es : Es} {z : Str} (h : σ d = some (.ds m (esV es))) (ha : evP ρ σ a = some (.str z)) (hb : evP ρ σ b = some (.ref d)) : evP ρ σ (.cmp .notin a b) = some (.bool !(getE es z).isSome) := ev_cmp ha hb (show (inV σ _ _).map _ = _ by rw [in_ds h]; rfl)
theorem ev_at {d : Addr} {m : Bool} {es : Es} {z : Str} {i : Int} (h : σ d = some (.ds m (esV es))) (hz : getE es z = some i) (ha : evP ρ σ a = some (.ref d)) (hb : evP ρ σ b = some (.str z)) : evP ρ σ (.sub a b) = some (.int i) := ev_sub ha hb (by rw [sub_ds h, hz]; rfl)
end

noncomputable def bfB (es : Es) (r : Ride) : Bool := (getE es r.1).isSome && (!(getE es r.2.1).isSome || (match getE es r.1, getE es r.2.1 with | some dx, some dy => decide (dx + r.2.2 < dy) | _, _ => false))
theorem bfB_true {es : Es} {r : Ride} (h : bfB es r = true) : ∃ dx, getE es r.1 = some dx ∧ relax es r = some (putE es r.2.1 (dx + r.2.2)) := by
  unfold bfB at h; unfold relax
  cases h1 : getE es r.1 with
  | none => rw [h1] at h; cases h
  | some dx =>
    refine ⟨dx, rfl, ?_⟩
    rw [h1] at h
    cases h2 : getE es r.2.1 with
    | none => rfl
    | some dy => rw [h2] at h; exact if_pos (of_decide_eq_true h)
theorem bfB_false {es : Es} {r : Ride} (h : bfB es r = false) : relax es r = none := by
  unfold bfB at h; unfold relax
  cases h1 : getE es r.1 with
  | none => rfl
  | some dx =>
    rw [h1] at h
    cases h2 : getE es r.2.1 with
    | none => rw [h2] at h; cases h
    | some dy => rw [h2] at h; exact if_neg (of_decide_eq_false h)
noncomputable def bfBody : List Mine.S := [.asg (.one 3) (.cst (.bool false)), .for (.many [4, 5, 6]) (.var 0) [.ite (.and (.cmp .isin (.var 4) (.var 2)) (.or (.cmp .notin (.var 5) (.var 2)) (.cmp .lt (.bin .add (.sub (.var 2) (.var 4)) (.var 6)) (.sub (.var 2) (.var 5))))) [.setItem (.var 2) (.var 5) (.bin .add (.sub (.var 2) (.var 4)) (.var 6)), .asg (.one 3) (.cst (.bool true))] []]]
theorem bf_pass {S : Spec} {roads : List Ride} {place : Str} (hp : ∀ r ∈ roads, 1 ≤ r.2.2) (hz : roads.length ≤ 10000) {es : Es} (hI : EInv roads place es) {m : Bool} {a d : Addr} {ρ : Loc} {σ : Store} {Q : FPost} (h0 : ρ 0 = some (.ref a)) (h2 : ρ 2 = some (.ref d)) (hd : σ d = some (.ds true (esV es))) (ha : σ a = some (.list m (roads.map rideV)))
    (q : ∀ ρ', ρ' 0 = some (.ref a) → ρ' 2 = some (.ref d) → ρ' 3 = some (.bool (roads.foldl passStep (es, false)).2) → Q .next ρ' (σ.set d (.ds true (esV (roads.foldl passStep (es, false)).1)))) : wpSs S bfBody ρ σ Q := by
  have had : a ≠ d := by rintro rfl; rw [hd] at ha; cases ha
  unfold bfBody
  refine st_asg rfl ?_
  refine st_forL (p := a) (m := m) (l := roads.map rideV) h0 ha (forW_of (fun j ρ' σ' => σ' = σ.set d (.ds true (esV ((roads.take j).foldl passStep (es, false)).1)) ∧ ρ' 0 = some (.ref a) ∧ ρ' 2 = some (.ref d) ∧ ρ' 3 = some (.bool ((roads.take j).foldl passStep (es, false)).2)) ?_ ?_ ?_ ?_)
  · rintro j ρ' σ' _ ⟨rfl, _⟩
    exact ⟨m, by rw [set_ne had]; exact ha⟩
  · rintro j v ρ₁ _ K hv ⟨rfl, r0, r2, r3⟩ hn hx
    rw [List.getElem?_map] at hv
    obtain ⟨r, hr, rfl⟩ := Option.map_eq_some_iff.mp hv
    have hJ := (pass_inv (place := place) (rs := roads.take j) (p := (es, false)) hp (fun r hr => List.mem_of_mem_take hr) hI).1
    rw [take_more hr] at hn
    simp only [List.foldl_append, List.foldl_cons, List.foldl_nil] at hn
    generalize (roads.take j).foldl passStep (es, false) = p at *
    have hlen := hJ.len
    refine ⟨_, rfl, ?_⟩
    have hs : (σ.set d (.ds true (esV p.1))) d = some (.ds true (esV p.1)) := set_self
    have hc : evP (((ρ₁.set 4 (.str r.1)).set 5 (.str r.2.1)).set 6 (.int r.2.2)) (σ.set d (.ds true (esV p.1))) (.and (.cmp .isin (.var 4) (.var 2)) (.or (.cmp .notin (.var 5) (.var 2)) (.cmp .lt (.bin .add (.sub (.var 2) (.var 4)) (.var 6)) (.sub (.var 2) (.var 5))))) = some (.bool (bfB p.1 r)) := by
      refine ev_and (ev_in hs (ev_var rfl) (ev_var r2)) fun h1 => ev_or (ev_nin hs (ev_var rfl) (ev_var r2)) fun h2 => ?_
      cases hx1 : getE p.1 r.1 with
      | none => rw [hx1] at h1; cases h1
      | some dx =>
        cases hy1 : getE p.1 r.2.1 with
        | none => rw [hy1] at h2; cases h2
        | some dy => exact ev_ltI (ev_add (ev_at hs hx1 (ev_var r2) (ev_var rfl)) (ev_var rfl)) (ev_at hs hy1 (ev_var r2) (ev_var rfl))
    cases hb : bfB p.1 r with
    | false =>
      rw [hb] at hc
      have e : passStep p r = p := by unfold passStep; rw [bfB_false hb]
      rw [e] at hn
      exact st_no hc (st_nil (hn _ _ ⟨rfl, r0, r2, r3⟩))
    | true =>
      rw [hb] at hc
      obtain ⟨dx, hx1, hr1⟩ := bfB_true hb
      have e : passStep p r = (putE p.1 r.2.1 (dx + r.2.2), true) := by unfold passStep; rw [hr1]
      rw [e] at hn
      refine st_yes hc (st_setS (p := d) (x := r.2.1) (v := .int (dx + r.2.2)) (ev_add (ev_at hs hx1 (ev_var r2) (ev_var rfl)) (ev_var rfl)) (ev_var r2) rfl hs ?_ (st_asg rfl (st_nil (hn _ _ ?_))))
      · unfold esV; rw [List.length_map]; exact Nat.le_trans hlen (Nat.le_trans (Nat.succ_le_succ hz) (by decide))
      · rw [set_set, put_esV]; exact ⟨rfl, r0, r2, rfl⟩
  · rintro ρ' σ' ⟨rfl, r0, r2, r3⟩
    rw [List.length_map, List.take_length] at *
    exact st_nil (q ρ' r0 r2 r3)
  · exact ⟨(set_same hd).symm, h0, h2, rfl⟩
theorem bf_loop {roads : List Ride} {place : Str} (hp : ∀ r ∈ roads, 1 ≤ r.2.2) (hz : roads.length ≤ 10000) : ∀ es, EInv roads place es → ∃ es' n, EInv roads place es' ∧ (∀ r ∈ roads, relax es' r = none) ∧
    ∀ (S : Spec) (m : Bool) (a d : Addr) (ρ : Loc) (σ : Store) (Q : FPost), ρ 0 = some (.ref a) → ρ 2 = some (.ref d) → ρ 3 = some (.bool true) → σ d = some (.ds true (esV es)) → σ a = some (.list m (roads.map rideV)) →
      (∀ ρ', ρ' 2 = some (.ref d) → Q .next ρ' (σ.set d (.ds true (esV es')))) → whileW (fun ρ σ Q => wpE S (.var 3) ρ σ (asBool Q)) (fun ρ σ Q => wpSs S bfBody ρ σ Q) n ρ σ Q := by
  have key : ∀ k s es, roads.length + 1 - es.length = k → sumE es = s → EInv roads place es → ∃ es' n, EInv roads place es' ∧ (∀ r ∈ roads, relax es' r = none) ∧
    ∀ (S : Spec) (m : Bool) (a d : Addr) (ρ : Loc) (σ : Store) (Q : FPost), ρ 0 = some (.ref a) → ρ 2 = some (.ref d) → ρ 3 = some (.bool true) → σ d = some (.ds true (esV es)) → σ a = some (.list m (roads.map rideV)) →
      (∀ ρ', ρ' 2 = some (.ref d) → Q .next ρ' (σ.set d (.ds true (esV es')))) → whileW (fun ρ σ Q => wpE S (.var 3) ρ σ (asBool Q)) (fun ρ σ Q => wpSs S bfBody ρ σ Q) n ρ σ Q := by
    intro k
    induction k using Nat.strongRecOn with
    | ind k ihk =>
      intro s
      induction s using Nat.strongRecOn with
      | ind s ihs =>
        intro es hk hs hI
        obtain ⟨h1, h2⟩ := pass_inv (place := place) (rs := roads) (p := (es, false)) hp (fun r hr => hr) hI
        rcases h2 with ⟨h2, h3⟩ | ⟨h2, h3⟩
        · refine ⟨es, 2, hI, h3, fun S m a d ρ σ Q r0 r2 r3 hd ha q => ?_⟩
          refine evP_ok (S := S) (e := .var 3) (v := .bool true) r3 ?_
          show wpSs S bfBody ρ σ _
          refine bf_pass hp hz hI r0 r2 hd ha fun ρ' p0 p2 p3 => ?_
          rw [h2] at p3 ⊢
          exact evP_ok (S := S) (e := .var 3) (v := .bool false) p3 (q ρ' p2)
        · have hlen := h1.len
          have hlen0 := hI.len
          have ih : ∃ es' n, EInv roads place es' ∧ (∀ r ∈ roads, relax es' r = none) ∧
              ∀ (S : Spec) (m : Bool) (a d : Addr) (ρ : Loc) (σ : Store) (Q : FPost), ρ 0 = some (.ref a) → ρ 2 = some (.ref d) → ρ 3 = some (.bool true) → σ d = some (.ds true (esV (roads.foldl passStep (es, false)).1)) → σ a = some (.list m (roads.map rideV)) →
                (∀ ρ', ρ' 2 = some (.ref d) → Q .next ρ' (σ.set d (.ds true (esV es')))) → whileW (fun ρ σ Q => wpE S (.var 3) ρ σ (asBool Q)) (fun ρ σ Q => wpSs S bfBody ρ σ Q) n ρ σ Q := by
            rcases h3 with h3 | ⟨h3, h4⟩
            · exact ihk (roads.length + 1 - (roads.foldl passStep (es, false)).1.length) (by simp only at h3; omega) _ _ rfl rfl h1
            · exact ihs (sumE (roads.foldl passStep (es, false)).1) (by simp only at h4; omega) _ (by simp only at h3; omega) rfl h1
          obtain ⟨es', n, k1, k2, k3⟩ := ih
          refine ⟨es', n + 1, k1, k2, fun S m a d ρ σ Q r0 r2 r3 hd ha q => ?_⟩
          have had : a ≠ d := by rintro rfl; rw [hd] at ha; cases ha
          refine evP_ok (S := S) (e := .var 3) (v := .bool true) r3 ?_
          show wpSs S bfBody ρ σ _
          refine bf_pass hp hz hI r0 r2 hd ha fun ρ' p0 p2 p3 => ?_
          rw [h2] at p3
          refine k3 S m a d ρ' _ Q p0 p2 p3 set_self (by rw [set_ne had]; exact ha) fun ρ'' z => ?_
          rw [set_set]; exact q ρ'' z
  exact fun es h => key _ _ es rfl rfl h
/-- what is asked of the least minutes -/
structure Least (roads : List Ride) (place : Str) (es : Es) : Prop where
  inv : EInv roads place es
  done : ∀ r ∈ roads, relax es r = none
theorem least_from_ok {roads : List Ride} {place : Str} (hp : ∀ r ∈ roads, 1 ≤ r.2.2) (hz : roads.length ≤ 10000) : ∃ es, Least roads place es ∧
    ∀ (k : Nat) (σ : Store) (a : Addr) (m : Bool) (Q : Post), σ a = some (.list m (roads.map rideV)) → (∀ d, σ d = none → Q (.ref d) (σ.set d (.ds true (esV es)))) → specAt P (k + 1) 7 [.ref a, .str place] σ Q := by
  have h0 : EInv roads place [(place, 0)] := by
    refine ⟨by simp [getE], fun x v h => ?_, fun x v h hx => ?_, by simp, by simp⟩
    · simp only [getE, List.find?_cons, List.find?_nil] at h
      split at h <;> simp at h
      omega
    · simp only [getE, List.find?_cons, List.find?_nil] at h
      split at h
      · rename_i hh; simp at hh; exact absurd hh.symm hx
      · simp at h
  obtain ⟨es, n, h1, h2, h3⟩ := bf_loop hp hz _ h0
  refine ⟨es, ⟨h1, h2⟩, fun k σ a m Q ha q => ?_⟩
  refine spec_of (xs := f_least_from) rfl rfl ?_
  unfold f_least_from
  refine st_asgE ?_
  refine ⟨_, rfl, place, rfl, fun d hd => ?_⟩
  have had : a ≠ d := by rintro rfl; rw [hd] at ha; cases ha
  refine st_asg rfl (st_while (n := n) (h3 _ m a d _ _ _ rfl rfl rfl set_self (by rw [set_ne had]; exact ha) fun ρ' h => ?_))
  refine st_ret (v := .ref d) h ?_
  rw [set_set]
  exact q d hd
end Mine

namespace Mine
open PySem
section
variable {S : Spec} {ρ : Loc} {σ : Store} {Q : Post}
theorem wp_compR {i : Nat} {it elt : X} {n : Int} (hi : evP ρ σ it = some (.rng 0 n)) (hn : 0 ≤ n ∧ n ≤ 1000000) (f : Nat → V) (he : ∀ j : Nat, (j : Int) < n → evP (ρ.set i (.int j)) σ elt = some (f j))
    (q : ∀ d, σ d = none → Q (.ref d) (σ.set d (.list true ((List.range n.toNat).map f)))) : wpE S (.comp (.one i) it elt) ρ σ Q := by
  dsimp only [we_var, we_cst, we_gl, we_bin, we_cmp, we_cmp2, we_and, we_or, we_not, we_sub, we_slc, we_rev, we_list, we_tup, we_dict0, we_dict1, we_comp, we_compIf, we_call, we_len, we_listOf, we_dictOf, we_tupleOf, we_isi, we_max2, we_minOf, we_sorted, we_rng1, we_rng2, we_append, we_insert0, we_pop, we_get1, we_get2, we_nil, we_cons]
  refine evP_ok hi ⟨_, _, .rng (by omega), by rw [rng_len hn.1]; omega, ?_⟩
  refine compW_plain (b := fun v => ∃ ρ', bindT (.one i) v ρ = some ρ') (fun k acc σ' => σ' = σ ∧ acc = (List.range k).map f) (fun v _ => ⟨_, rfl⟩) (fun _ _ _ _ _ => trivial) ?_ ?_ ⟨rfl, rfl⟩
  · rintro k v acc σ' K hv ⟨rfl, rfl⟩ hk
    obtain ⟨rfl, hlt⟩ := rng_get hv
    refine ⟨_, rfl, evP_ok (he k hlt) (hk _ _ ⟨rfl, ?_⟩)⟩
    rw [List.range_succ, List.map_append]; rfl
  · rintro acc σ' ⟨rfl, rfl⟩ d hd
    rw [rng_len hn.1]
    exact q d hd
theorem wp_compL {t : Tgt} {it elt : X} {p : Addr} {m : Bool} {l : List V} (hi : evP ρ σ it = some (.ref p)) (hp : σ p = some (.list m l)) (hz : l.length ≤ 1000000) (f : V → V) (he : ∀ x ∈ l, ∃ ρ', bindT t x ρ = some ρ' ∧ evP ρ' σ elt = some (f x))
    (q : ∀ d, σ d = none → Q (.ref d) (σ.set d (.list true (l.map f)))) : wpE S (.comp t it elt) ρ σ Q := by
  dsimp only [we_var, we_cst, we_gl, we_bin, we_cmp, we_cmp2, we_and, we_or, we_not, we_sub, we_slc, we_rev, we_list, we_tup, we_dict0, we_dict1, we_comp, we_compIf, we_call, we_len, we_listOf, we_dictOf, we_tupleOf, we_isi, we_max2, we_minOf, we_sorted, we_rng1, we_rng2, we_append, we_insert0, we_pop, we_get1, we_get2, we_nil, we_cons]
  refine evP_ok hi ⟨_, _, .list hp, hz, ?_⟩
  refine compW_plain (b := fun v => ∃ ρ', bindT t v ρ = some ρ') (fun k acc σ' => σ' = σ ∧ acc = (l.take k).map f) (fun v hv => let ⟨ρ', h, _⟩ := he v hv; ⟨ρ', h⟩) (fun _ _ _ _ h => by rw [h.1]; exact ⟨_, hp⟩) ?_ ?_ ⟨rfl, rfl⟩
  · rintro k v acc σ' K hv ⟨rfl, rfl⟩ hk
    obtain ⟨ρ', h1, h2⟩ := he v (List.mem_of_getElem? hv)
    refine ⟨ρ', h1, evP_ok h2 (hk _ _ ⟨rfl, ?_⟩)⟩
    rw [take_more hv, List.map_append]; rfl
  · rintro acc σ' ⟨rfl, rfl⟩ d hd
    rw [List.take_length]
    exact q d hd
theorem wp_list {es : List X} {vs : List V} (h : evPs ρ σ es = some vs) (q : ∀ d, σ d = none → Q (.ref d) (σ.set d (.list true vs))) : wpE S (.list es) ρ σ Q := by
  exact evPs_ok (es := es) h fun d hd => q d hd
end

/-! names -/
noncomputable def letter (k : Nat) : Str := ⟨#[97 + k]⟩
theorem abc_at {k : Nat} (h : k < 26) : strAt abc k = some (letter k) := by
  have key : ∀ k : Fin 26, strAt abc k.val = some (letter k.val) := by decide +kernel
  exact key ⟨k, h⟩
noncomputable def word (l : List Nat) : Str := ⟨l.toArray⟩
theorem word_len (l : List Nat) : (word l).length = l.length := by simp [word, Str.length]
theorem word_place {l : List Nat} (h1 : 1 ≤ l.length) (h2 : l.length ≤ 12) (h3 : ∀ c ∈ l, 97 ≤ c ∧ c ≤ 122) : Place (word l) := by
  refine ⟨by rw [word_len]; exact h1, by rw [word_len]; exact h2, fun c hc => h3 c (by simpa [word] using hc)⟩
theorem word_inj {l l' : List Nat} (h : word l = word l') : l = l' := by
  unfold word at h
  have := congrArg (fun x : Str => x.cps.toList) h
  simpa using this
theorem rep_letter {k n : Nat} : strRep (letter k) n = word (List.replicate n (97 + k)) := by
  unfold strRep letter word
  congr 2
  induction n with
  | zero => rfl
  | succ n ih => rw [List.replicate_succ, List.flatten_cons, ih]; rfl
theorem word_app (l l' : List Nat) : word l ++ word l' = word (l ++ l') := by
  show (⟨l.toArray ++ l'.toArray⟩ : Str) = ⟨(l ++ l').toArray⟩
  congr 1
  simp
end Mine

namespace Mine
open PySem
theorem abc_sub {i : Int} {σ : Store} (h : 0 ≤ i ∧ i < 26) : subV σ (.str (Str.ofString "abcdefghijklmnopqrstuvwxyz")) (.int i) = some (.str (letter i.toNat)) := by
  have := abc_at (k := i.toNat) (by omega)
  show (if 0 ≤ i ∧ i < 1000 then (strAt abc i.toNat).map V.str else none) = _
  rw [if_pos ⟨h.1, Int.lt_trans h.2 (by decide)⟩]
  rw [this]; rfl
theorem mul_letter {k n : Nat} (h : n ≤ 1000) : binP .mul (.str (letter k)) (.int n) = some (.str (word (List.replicate n (97 + k)))) := by
  rw [binMulS (x := letter k) ⟨Int.natCast_nonneg n, by omega, (by decide : 1 ≤ 12)⟩, rep_letter]; rfl
theorem add_word {a b : List Nat} (h : a.length + b.length ≤ 1000) : binP .add (.str (word a)) (.str (word b)) = some (.str (word (a ++ b))) := by
  rw [binAddS (by rw [word_len, word_len]; exact Nat.le_trans h (by decide)), word_app]
structure NamesOK (ns : List Str) : Prop where
  place : ∀ x ∈ ns, Place x
  inj : ∀ (i j : Nat) x, ns[i]? = some x → ns[j]? = some x → i = j
theorem names_range {n : Nat} {f : Nat → Str} (h1 : ∀ j < n, Place (f j)) (h2 : ∀ i j, i < n → j < n → f i = f j → i = j) : NamesOK ((List.range n).map f) := by
  have get : ∀ (i : Nat) x, ((List.range n).map f)[i]? = some x → i < n ∧ f i = x := by
    intro i x h
    rw [List.getElem?_map] at h
    obtain ⟨j, hj, rfl⟩ := Option.map_eq_some_iff.mp h
    obtain ⟨a, b⟩ := List.getElem?_eq_some_iff.mp hj
    rw [List.getElem_range] at b
    subst b
    exact ⟨by simpa using a, rfl⟩
  refine ⟨fun x hx => ?_, fun i j x hi hj => ?_⟩
  · obtain ⟨j, hj, rfl⟩ := List.mem_map.mp hx
    exact h1 j (List.mem_range.mp hj)
  · obtain ⟨a1, a2⟩ := get i x hi
    obtain ⟨b1, b2⟩ := get j x hj
    exact h2 i j a1 b1 (a2.trans b2.symm)
/-- out of sight -/
noncomputable def Hid (p : Prop) : Prop := p
theorem law_names_ok {cell : Int} {many : Nat} (hm : many ≤ 12) : ∃ names : List Str, NamesOK names ∧ names.length = many ∧
    ∀ (k : Nat) (σ : Store) (Q : Post), (∀ d, σ d = none → Q (.ref d) (σ.set d (.list true (names.map .str)))) → specAt P (k + 1) 11 [.int cell, .int many] σ Q := by
  by_cases hodd : cell % 2 = 1
  · generalize hc : (cell / 2 % 26).toNat = c
    have hc26 : c < 26 := by omega
    replace hodd : Hid (cell % 2 = 1) := hodd
    replace hc : Hid ((cell / 2 % 26).toNat = c) := hc
    refine ⟨(List.range many).map fun j => word (List.replicate (j + 1) (97 + c)), names_range (fun j hj => word_place (by simp) (by simp; omega) fun x hx => ?_) (fun i j _ _ h => ?_), by simp, fun k σ Q q => ?_⟩
    · have := List.eq_of_mem_replicate hx; omega
    · have := congrArg List.length (word_inj h)
      simpa using this
    · refine spec_of (xs := f_law_names) rfl rfl ?_
      unfold f_law_names
      refine st_asg rfl (st_yes ?_ ?_)
      · exact ev_cmp (ev_bin rfl rfl rfl) rfl (eqI_t hodd)
      · refine st_retE (wp_compR (n := (many : Int)) rfl (by omega) (fun j => .str (word (List.replicate (j + 1) (97 + c)))) (fun j hj => ?_) fun d hd => ?_)
        · refine ev_bin (x := .str (letter c)) (y := .int (j + 1)) (ev_sub rfl (ev_bin (x := .int (cell / 2)) (ev_bin rfl rfl rfl) rfl rfl) ?_) (ev_bin rfl rfl rfl) ?_
          · show subV σ (.str (Str.ofString "abcdefghijklmnopqrstuvwxyz")) (.int (cell / 2 % 26)) = _
            rw [abc_sub (by omega), show (cell / 2 % 26).toNat = c from hc]
          · exact mul_letter (n := j + 1) (by omega)
        · have := q d hd
          rw [List.map_map] at this
          exact this
  · generalize hc2 : cell / 2 = c2
    generalize hsz : (1 + c2 % 12).toNat = sz
    have hsz1 : 1 ≤ sz ∧ sz ≤ 12 := by omega
    have hszi : 1 + c2 % 12 = (sz : Int) := by omega
    generalize hp : (c2 / 12 % (sz : Int)).toNat = p
    have hp0 : 0 ≤ c2 / 12 % (sz : Int) := Int.emod_nonneg _ (by omega)
    have hp1 : c2 / 12 % (sz : Int) < sz := Int.emod_lt_of_pos _ (by omega)
    have hpi : c2 / 12 % (sz : Int) = (p : Int) := by omega
    have hpsz : p < sz := by omega
    generalize hf : (c2 / 144 % 26).toNat = f
    have hf26 : f < 26 := by omega
    clear hp0 hp1 hp hsz
    replace hodd : Hid (¬ cell % 2 = 1) := hodd
    replace hc2 : Hid (cell / 2 = c2) := hc2
    replace hszi : Hid (1 + c2 % 12 = (sz : Int)) := hszi
    replace hpi : Hid (c2 / 12 % (sz : Int) = (p : Int)) := hpi
    replace hf : Hid ((c2 / 144 % 26).toNat = f) := hf
    have key : ∀ (names : List Str) (nm : Nat → Str), names = (List.range many).map nm → (∀ j, nm j = word (List.replicate p (97 + f) ++ [97 + (((j : Int) + c2 / 3744) % 26).toNat] ++ List.replicate (sz - 1 - p) (97 + f))) → NamesOK names ∧ names.length = many ∧
        ∀ (k : Nat) (σ : Store) (Q : Post), (∀ d, σ d = none → Q (.ref d) (σ.set d (.list true (names.map .str)))) → specAt P (k + 1) 11 [.int cell, .int many] σ Q := by
      intro names nm hnames hnm
      subst hnames
      refine ⟨names_range (fun j hj => ?_) (fun i j hi hj h => ?_), by simp, fun k σ Q q => ?_⟩
      · rw [hnm]
        refine word_place (by simp; omega) (by simp; omega) fun x hx => ?_
        simp only [List.mem_append, List.mem_singleton] at hx
        rcases hx with (hx | hx) | hx
        · have := List.eq_of_mem_replicate hx; omega
        · omega
        · have := List.eq_of_mem_replicate hx; omega
      · rw [hnm, hnm] at h
        have h' := word_inj h
        have := congrArg (fun l : List Nat => l[p]?) h'
        have mid : ∀ (x : Nat) r, (List.replicate p (97 + f) ++ [x] ++ r)[p]? = some x := by
          intro x r
          rw [List.append_assoc, List.getElem?_append_right (by simp)]; simp
        simp only [mid, Option.some.injEq] at this
        omega
      · refine spec_of (xs := f_law_names) rfl rfl ?_
        unfold f_law_names
        refine st_asg rfl (st_no ?_ ?_)
        · exact ev_cmp (ev_bin rfl rfl rfl) rfl (eqI_f hodd)
        refine st_asg (v := .int c2) (ev_bin rfl rfl (by rw [← show cell / 2 = c2 from hc2]; rfl)) ?_
        refine st_asg (v := .int sz) (ev_bin rfl (ev_bin rfl rfl rfl) (by rw [← show 1 + c2 % 12 = (sz : Int) from hszi]; rfl)) ?_
        refine st_asg (v := .int p) (ev_bin (ev_bin rfl rfl rfl) rfl (by
          rw [binMod (by omega), show c2 / 12 % (sz : Int) = (p : Int) from hpi])) ?_
        refine st_asg (v := .str (letter f)) (ev_sub rfl (ev_bin (ev_bin rfl rfl rfl) rfl rfl) (by rw [abc_sub (by omega), show (c2 / 144 % 26).toNat = f from hf])) ?_
        refine st_asgE (wp_list rfl fun d hd => ?_)
        refine st_forR (n := (many : Int)) rfl (by omega) (forW_of (fun j ρ' σ' => σ' = σ.set d (.list true ((List.range j).map fun j => .str (nm j))) ∧ ρ' 0 = some (.int c2) ∧ ρ' 2 = some (.str (Str.ofString "abcdefghijklmnopqrstuvwxyz")) ∧ ρ' 3 = some (.int sz) ∧ ρ' 4 = some (.int p) ∧ ρ' 5 = some (.str (letter f)) ∧ ρ' 6 = some (.ref d)) (fun _ _ _ _ _ => trivial) ?_ ?_ ⟨rfl, rfl, rfl, rfl, rfl, rfl, rfl⟩)
        · rintro j v ρ _ K hv ⟨rfl, r0, r2, r3, r4, r5, r6⟩ hn hx
          obtain ⟨rfl, hlt⟩ := rng_get hv
          refine ⟨_, rfl, ?_⟩
          refine st_asg (v := .str (letter (((j : Int) + c2 / 3744) % 26).toNat)) (ev_sub (ev_var r2) (ev_bin (x := .int ((j : Int) + c2 / 3744)) (y := .int 26) (v := .int (((j : Int) + c2 / 3744) % 26)) (ev_bin (x := .int j) (y := .int (c2 / 3744)) rfl (ev_bin (x := .int c2) (y := .int 3744) (ev_var r0) rfl rfl) rfl) rfl rfl) (abc_sub (by omega))) ?_
          refine st_app (p := d) (v := .str (nm j)) r6 set_self ?_ (by simp; omega) (st_nil (hn _ _ ⟨?_, r0, r2, r3, r4, r5, r6⟩))
          · refine ev_bin (x := .str (word (List.replicate p (97 + f) ++ [97 + (((j : Int) + c2 / 3744) % 26).toNat]))) (ev_bin (ev_bin (ev_var r5) (ev_var r4) (mul_letter (by omega))) (y := .str (letter (((j : Int) + c2 / 3744) % 26).toNat)) rfl ?_) (ev_bin (y := .int ((sz - 1 - p : Nat) : Int)) (ev_var r5) (ev_bin (x := .int ((sz : Int) - 1)) (ev_bin (ev_var r3) rfl rfl) (ev_var r4) (congrArg (fun z => some (V.int z)) (show (sz : Int) - 1 - p = ((sz - 1 - p : Nat) : Int) by omega))) (mul_letter (by omega))) ?_
            · exact add_word (b := [_]) (by rw [List.length_replicate]; show p + 1 ≤ 1000; omega)
            · rw [hnm]; exact add_word (by rw [List.length_append, List.length_replicate, List.length_replicate]; show p + 1 + (sz - 1 - p) ≤ 1000; omega)
          · rw [set_set, List.range_succ, List.map_append]; rfl
        · rintro ρ σ' ⟨rfl, r0, r2, r3, r4, r5, r6⟩
          rw [rng_len (by omega)]
          refine st_ret (v := .ref d) r6 ?_
          have := q d hd
          rw [List.map_map] at this
          exact this
    exact ⟨_, key _ _ rfl fun _ => rfl⟩
end Mine

namespace Mine
open PySem
noncomputable def nameAt (names : List Str) (i : Int) : Str := names[i.toNat]?.getD (letter 0)
theorem nameAt_get {names : List Str} {i : Int} (h0 : 0 ≤ i) (h : i < names.length) : names[i.toNat]? = some (nameAt names i) := by
  have : i.toNat < names.length := by omega
  unfold nameAt
  rw [List.getElem?_eq_getElem this]; rfl
theorem nameAt_mem {names : List Str} {i : Int} (h0 : 0 ≤ i) (h : i < names.length) : nameAt names i ∈ names := List.mem_of_getElem? (nameAt_get h0 h)
theorem nameAt_inj {names : List Str} (hN : NamesOK names) {i j : Int} (h0 : 0 ≤ i) (h : i < names.length) (h0' : 0 ≤ j) (h' : j < names.length) (e : nameAt names i = nameAt names j) : i = j := by
  have h1 := nameAt_get h0 h
  have h2 := nameAt_get h0' h'
  rw [e] at h1
  have := hN.inj _ _ _ h1 h2
  omega
theorem sub_name {σ : Store} {b : Addr} {m : Bool} {names : List Str} {i : Int} (hb : σ b = some (.list m (names.map .str))) (h0 : 0 ≤ i) (h : i < names.length) : subV σ (.ref b) (.int i) = some (.str (nameAt names i)) :=
  list_sub hb h0 (by rw [List.getElem?_map, nameAt_get h0 h]; rfl)
noncomputable def rideAt (names : List Str) (cell : Int) : List Ride :=
  let n : Int := names.length
  let one := cell % n
  let other := (one + 1 + cell / 8 % max 1 (n - 1)) % n
  if one = other then [] else [(nameAt names one, nameAt names other, if cell / 64 % 8 = 1 then 1 + cell / 512 % 9999 else 1 + cell / 64 % 40)]
noncomputable def ridesOf (names : List Str) (ns : List Int) (p0 size : Nat) : List Ride := (List.range size).flatMap fun j => rideAt names (cellAt ns (p0 + j))
theorem rideAt_ok {names : List Str} (hN : NamesOK names) (hn : 0 < names.length) {cell : Int} {r : Ride} (h : r ∈ rideAt names cell) : RideOK r ∧ r.1 ∈ names ∧ r.2.1 ∈ names := by
  unfold rideAt at h
  dsimp only at h
  split at h
  · cases h
  · rename_i hne
    simp only [List.mem_singleton] at h
    have hn' : (0 : Int) < names.length := by omega
    have a1 := Int.emod_nonneg cell (b := (names.length : Int)) (by omega)
    have a2 := Int.emod_lt_of_pos cell hn'
    have b1 := Int.emod_nonneg (cell % (names.length : Int) + 1 + cell / 8 % max 1 ((names.length : Int) - 1)) (b := (names.length : Int)) (by omega)
    have b2 := Int.emod_lt_of_pos (cell % (names.length : Int) + 1 + cell / 8 % max 1 ((names.length : Int) - 1)) hn'
    subst h
    refine ⟨⟨hN.place _ (nameAt_mem a1 a2), hN.place _ (nameAt_mem b1 b2), fun e => hne (nameAt_inj hN a1 a2 b1 b2 e), ?_, ?_⟩, nameAt_mem a1 a2, nameAt_mem b1 b2⟩
    · simp only; split <;> omega
    · simp only; split <;> omega
theorem ridesOf_ok {names : List Str} (hN : NamesOK names) (hn : 0 < names.length) {ns : List Int} {p0 size : Nat} : ∀ r ∈ ridesOf names ns p0 size, RideOK r ∧ r.1 ∈ names ∧ r.2.1 ∈ names := fun r h => by
  obtain ⟨j, _, h⟩ := List.mem_flatMap.mp h
  exact rideAt_ok hN hn h
theorem ridesOf_len {names : List Str} {ns : List Int} {p0 size : Nat} : (ridesOf names ns p0 size).length ≤ size := by
  unfold ridesOf
  induction size with
  | zero => simp
  | succ n ih =>
    rw [List.range_succ, List.flatMap_append, List.length_append]
    have : (rideAt names (cellAt ns (p0 + n))).length ≤ 1 := by unfold rideAt; dsimp only; split <;> simp
    simp only [List.flatMap_cons, List.flatMap_nil, List.append_nil]; omega
theorem law_rides_ok {k : Nat} {a b : Addr} {m m' : Bool} {ns : List Int} {names : List Str} {p0 size : Nat} {σ : Store} {Q : Post} (hz : ns.length ≤ 63) (ha : σ a = some (.list m (ns.map .int))) (hb : σ b = some (.list m' (names.map .str))) (hN : NamesOK names) (hn : 0 < names.length ∧ names.length ≤ 1000) (hs : size ≤ 1000)
    (q : ∀ d, σ d = none → Q (.ref d) (σ.set d (.list true ((ridesOf names ns p0 size).map rideV)))) : specAt P (k + 2) 12 [.ref a, .int p0, .ref b, .int size] σ Q := by
  refine spec_of (xs := f_law_rides) rfl rfl ?_
  unfold f_law_rides
  refine st_asgE (wp_list rfl fun d hd => ?_)
  have hda : a ≠ d := by rintro rfl; rw [hd] at ha; cases ha
  have hdb : b ≠ d := by rintro rfl; rw [hd] at hb; cases hb
  have ha' : ∀ o, (σ.set d o) a = some (.list m (ns.map .int)) := fun o => by rw [set_ne hda]; exact ha
  have hb' : ∀ o, (σ.set d o) b = some (.list m' (names.map .str)) := fun o => by rw [set_ne hdb]; exact hb
  refine st_forR (n := (size : Int)) rfl (by omega) (forW_of (fun j ρ' σ' => σ' = σ.set d (.list true ((ridesOf names ns p0 j).map rideV)) ∧ ρ' 0 = some (.ref a) ∧ ρ' 1 = some (.int p0) ∧ ρ' 2 = some (.ref b) ∧ ρ' 4 = some (.ref d)) (fun _ _ _ _ _ => trivial) ?_ ?_ ⟨rfl, rfl, rfl, rfl, rfl⟩)
  · rintro j v ρ _ K hv ⟨rfl, r0, r1, r2, r4⟩ hnx hx
    obtain ⟨rfl, hlt⟩ := rng_get hv
    refine ⟨_, rfl, ?_⟩
    refine st_asgE (wp_call (vs := [.ref a, .int ((p0 + j : Nat) : Int)]) ?_ (cell_ok (ha' _) hz ?_))
    · exact ev_cons (ev_var r0) (ev_cons (ev_bin (x := .int p0) (y := .int j) (ev_var r1) rfl rfl) ev_nil)
    have step : ridesOf names ns p0 (j + 1) = ridesOf names ns p0 j ++ rideAt names (cellAt ns (p0 + j)) := by
      unfold ridesOf; rw [List.range_succ, List.flatMap_append]; simp
    generalize cellAt ns (p0 + j) = cell at *
    have hlen : lenV (σ.set d (.list true ((ridesOf names ns p0 j).map rideV))) (.ref b) = some names.length := len_map (hb' _)
    have hn' : (0 : Int) < names.length := by omega
    have a1 := Int.emod_nonneg cell (b := (names.length : Int)) (by omega)
    have a2 := Int.emod_lt_of_pos cell hn'
    have b1 := Int.emod_nonneg (cell % (names.length : Int) + 1 + cell / 8 % max 1 ((names.length : Int) - 1)) (b := (names.length : Int)) (by omega)
    have b2 := Int.emod_lt_of_pos (cell % (names.length : Int) + 1 + cell / 8 % max 1 ((names.length : Int) - 1)) hn'
    have hlE : ∀ {ρ : Loc}, ρ 2 = some (.ref b) → evP ρ (σ.set d (.list true ((ridesOf names ns p0 j).map rideV))) (.len (.var 2)) = some (.int names.length) := fun h => ev_len (ev_var h) hlen (by omega)
    have bm : ∀ x y : Int, 0 < y → binP .mod (.int x) (.int y) = some (.int (x % y)) := fun x y h => binMod h
    refine st_asg (v := .int (cell % (names.length : Int))) (ev_bin rfl (hlE r2) (bm _ _ hn')) ?_
    refine st_asg (v := .int ((cell % (names.length : Int) + 1 + cell / 8 % max 1 ((names.length : Int) - 1)) % (names.length : Int))) (ev_bin (x := .int (cell % (names.length : Int) + 1 + cell / 8 % max 1 ((names.length : Int) - 1))) (ev_bin (x := .int (cell % (names.length : Int) + 1)) (y := .int (cell / 8 % max 1 ((names.length : Int) - 1))) (ev_bin rfl rfl rfl) (ev_bin (x := .int (cell / 8)) (y := .int (max 1 ((names.length : Int) - 1))) (ev_bin rfl rfl rfl) ?_ (bm _ _ (by omega))) rfl) (hlE r2) (bm _ _ hn')) ?_
    · exact bind2 (f := maxP) (x := .int 1) (y := .int ((names.length : Int) - 1)) rfl (ev_subI (hlE r2) rfl) rfl
    refine st_asg (v := .int (1 + cell / 64 % 40)) rfl ?_
    -- the minutes
    have fin : ∀ ρ' : Loc, ρ' 0 = some (.ref a) → ρ' 1 = some (.int p0) → ρ' 2 = some (.ref b) → ρ' 4 = some (.ref d) → ρ' 7 = some (.int (cell % (names.length : Int))) → ρ' 8 = some (.int ((cell % (names.length : Int) + 1 + cell / 8 % max 1 ((names.length : Int) - 1)) % (names.length : Int))) →
        ρ' 9 = some (.int (if cell / 64 % 8 = 1 then 1 + cell / 512 % 9999 else 1 + cell / 64 % 40)) →
        wpSs (specAt P (k + 1)) [.ite (.cmp .ne (.var 7) (.var 8)) [.expr (.append (.var 4) (.tup [.sub (.var 2) (.var 7), .sub (.var 2) (.var 8), .var 9]))] []] ρ' (σ.set d (.list true ((ridesOf names ns p0 j).map rideV))) K := by
      intro ρ' p0' p1' p2' p4' p7' p8' p9'
      by_cases hE : cell % (names.length : Int) = (cell % (names.length : Int) + 1 + cell / 8 % max 1 ((names.length : Int) - 1)) % (names.length : Int)
      · refine st_no (ev_cmp (ev_var p7') (ev_var p8') (neI_f hE)) (st_nil (hnx _ _ ⟨?_, p0', p1', p2', p4'⟩))
        rw [step]
        have : rideAt names cell = [] := by unfold rideAt; dsimp only; rw [if_pos hE]
        rw [this, List.append_nil]
      · refine st_yes (ev_cmp (ev_var p7') (ev_var p8') (neI_t hE)) (st_app p4' set_self (ev_tup (ev_cons (ev_sub (ev_var p2') (ev_var p7') (sub_name (hb' _) a1 a2)) (ev_cons (ev_sub (ev_var p2') (ev_var p8') (sub_name (hb' _) b1 b2)) (ev_cons (ev_var p9') ev_nil)))) ?_ (st_nil (hnx _ _ ⟨?_, p0', p1', p2', p4'⟩)))
        · have := ridesOf_len (names := names) (ns := ns) (p0 := p0) (size := j)
          simp; omega
        · rw [set_set, step]
          have : rideAt names cell = [(nameAt names (cell % (names.length : Int)), nameAt names ((cell % (names.length : Int) + 1 + cell / 8 % max 1 ((names.length : Int) - 1)) % (names.length : Int)), if cell / 64 % 8 = 1 then 1 + cell / 512 % 9999 else 1 + cell / 64 % 40)] := by unfold rideAt; dsimp only; rw [if_neg hE]
          rw [this, List.map_append]; rfl
    by_cases h8 : cell / 64 % 8 = 1
    · refine st_yes (ev_cmp (x := .int (cell / 64 % 8)) (y := .int 1) rfl rfl (eqI_t h8)) (st_asg (v := .int (1 + cell / 512 % 9999)) rfl ?_)
      refine fin _ r0 r1 r2 r4 rfl rfl (by rw [if_pos h8]; rfl)
    · refine st_no (ev_cmp (x := .int (cell / 64 % 8)) (y := .int 1) rfl rfl (eqI_f h8)) ?_
      refine fin _ r0 r1 r2 r4 rfl rfl (by rw [if_neg h8]; rfl)
  · rintro ρ σ' ⟨rfl, r0, r1, r2, r4⟩
    rw [rng_len (by omega)]
    refine st_ret (v := .ref d) r4 ?_
    have := q d hd
    simpa using this
end Mine

namespace Mine
open PySem
theorem toNat_mod {c n : Int} (h : 0 < n) : (((c % n).toNat : Nat) : Int) = c % n := Int.toNat_of_nonneg (Int.emod_nonneg c (Int.ne_of_gt h))
theorem toNat_mod1 {c n : Int} (h : 0 < n) : (((1 + c % n).toNat : Nat) : Int) = 1 + c % n := Int.toNat_of_nonneg (Int.add_nonneg (by decide) (Int.emod_nonneg c (Int.ne_of_gt h)))
theorem mod_small {c n : Int} (h : 0 < n) (h' : n ≤ 1000) : (c % n).toNat ≤ 1000 := by
  have := Int.emod_lt_of_pos c h
  omega
noncomputable def beginOf (cell : Int) : Int := if cell / 64 % 16 = 1 then cell / 1024 % 99000 else cell / 64 % 120
noncomputable def leastOf (cell : Int) : Int := if cell / 64 % 16 = 2 then 1 + cell / 1024 % 99000 else if cell / 64 % 16 = 1 then 1 + cell / 1024 % 999 else 1 + cell / 7680 % 25
noncomputable def tripAt (names : List Str) (cell : Int) : Trip := (nameAt names (cell % (names.length : Int)), beginOf cell, nameAt names (cell / 13 % (names.length : Int)), beginOf cell + leastOf cell)
noncomputable def tripsOf (names : List Str) (ns : List Int) (p0 size : Nat) : List Trip := (List.range size).map fun j => tripAt names (cellAt ns (p0 + j))
theorem tripAt_ok {names : List Str} (hN : NamesOK names) (hn : 0 < names.length) {cell : Int} : TripOK (tripAt names cell) ∧ (tripAt names cell).1 ∈ names ∧ (tripAt names cell).2.2.1 ∈ names := by
  have hn' : (0 : Int) < names.length := by omega
  have a1 := Int.emod_nonneg cell (b := (names.length : Int)) (by omega)
  have a2 := Int.emod_lt_of_pos cell hn'
  have b1 := Int.emod_nonneg (cell / 13) (b := (names.length : Int)) (by omega)
  have b2 := Int.emod_lt_of_pos (cell / 13) hn'
  refine ⟨⟨hN.place _ (nameAt_mem a1 a2), hN.place _ (nameAt_mem b1 b2), ?_, ?_, ?_⟩, nameAt_mem a1 a2, nameAt_mem b1 b2⟩
  · simp only [tripAt, beginOf]; split <;> omega
  · simp only [tripAt, leastOf]; split <;> (try split) <;> omega
  · simp only [tripAt, leastOf, beginOf]; split <;> (try split) <;> omega
theorem tripsOf_ok {names : List Str} (hN : NamesOK names) (hn : 0 < names.length) {ns : List Int} {p0 size : Nat} : ∀ t ∈ tripsOf names ns p0 size, TripOK t ∧ t.1 ∈ names ∧ t.2.2.1 ∈ names := fun t h => by
  obtain ⟨j, _, rfl⟩ := List.mem_map.mp h
  exact tripAt_ok hN hn
theorem law_trips_ok {k : Nat} {a b : Addr} {m m' : Bool} {ns : List Int} {names : List Str} {p0 size : Nat} {σ : Store} {Q : Post} (hz : ns.length ≤ 63) (ha : σ a = some (.list m (ns.map .int))) (hb : σ b = some (.list m' (names.map .str))) (hn : 0 < names.length ∧ names.length ≤ 1000) (hs : size ≤ 1000)
    (q : ∀ d, σ d = none → Q (.ref d) (σ.set d (.list true ((tripsOf names ns p0 size).map tripV)))) : specAt P (k + 2) 13 [.ref a, .int p0, .ref b, .int size] σ Q := by
  refine spec_of (xs := f_law_trips) rfl rfl ?_
  unfold f_law_trips
  refine st_asgE (wp_list rfl fun d hd => ?_)
  have hda : a ≠ d := by rintro rfl; rw [hd] at ha; cases ha
  have hdb : b ≠ d := by rintro rfl; rw [hd] at hb; cases hb
  have ha' : ∀ o, (σ.set d o) a = some (.list m (ns.map .int)) := fun o => by rw [set_ne hda]; exact ha
  have hb' : ∀ o, (σ.set d o) b = some (.list m' (names.map .str)) := fun o => by rw [set_ne hdb]; exact hb
  refine st_forR (n := (size : Int)) rfl (by omega) (forW_of (fun j ρ' σ' => σ' = σ.set d (.list true ((tripsOf names ns p0 j).map tripV)) ∧ ρ' 0 = some (.ref a) ∧ ρ' 1 = some (.int p0) ∧ ρ' 2 = some (.ref b) ∧ ρ' 4 = some (.ref d)) (fun _ _ _ _ _ => trivial) ?_ ?_ ⟨rfl, rfl, rfl, rfl, rfl⟩)
  · rintro j v ρ _ K hv ⟨rfl, r0, r1, r2, r4⟩ hnx hx
    obtain ⟨rfl, hlt⟩ := rng_get hv
    refine ⟨_, rfl, ?_⟩
    refine st_asgE (wp_call (vs := [.ref a, .int ((p0 + j : Nat) : Int)]) ?_ (cell_ok (ha' _) hz ?_))
    · exact ev_cons (ev_var r0) (ev_cons (ev_bin (x := .int p0) (y := .int j) (ev_var r1) rfl rfl) ev_nil)
    have step : tripsOf names ns p0 (j + 1) = tripsOf names ns p0 j ++ [tripAt names (cellAt ns (p0 + j))] := by
      unfold tripsOf; rw [List.range_succ, List.map_append]; rfl
    generalize cellAt ns (p0 + j) = cell at *
    have hlen : lenV (σ.set d (.list true ((tripsOf names ns p0 j).map tripV))) (.ref b) = some names.length := len_map (hb' _)
    have hn' : (0 : Int) < names.length := by omega
    have a1 := Int.emod_nonneg cell (b := (names.length : Int)) (by omega)
    have a2 := Int.emod_lt_of_pos cell hn'
    have b1 := Int.emod_nonneg (cell / 13) (b := (names.length : Int)) (by omega)
    have b2 := Int.emod_lt_of_pos (cell / 13) hn'
    have hlE : ∀ {ρ : Loc}, ρ 2 = some (.ref b) → evP ρ (σ.set d (.list true ((tripsOf names ns p0 j).map tripV))) (.len (.var 2)) = some (.int names.length) := fun h => ev_len (ev_var h) hlen (by omega)
    have bm : ∀ x y : Int, 0 < y → binP .mod (.int x) (.int y) = some (.int (x % y)) := fun x y h => binMod h
    refine st_asg (v := .str (nameAt names (cell % (names.length : Int)))) (ev_sub (ev_var r2) (ev_bin rfl (hlE r2) (bm _ _ hn')) (sub_name (hb' _) a1 a2)) ?_
    refine st_asg (v := .str (nameAt names (cell / 13 % (names.length : Int)))) (ev_sub (ev_var r2) (ev_bin (x := .int (cell / 13)) rfl (hlE r2) (bm _ _ hn')) (sub_name (hb' _) b1 b2)) ?_
    refine st_asg (v := .int (cell / 64 % 120)) rfl (st_asg (v := .int (1 + cell / 7680 % 25)) rfl ?_)
    have fin : ∀ ρ' : Loc, ρ' 0 = some (.ref a) → ρ' 1 = some (.int p0) → ρ' 2 = some (.ref b) → ρ' 4 = some (.ref d) → ρ' 7 = some (.str (nameAt names (cell % (names.length : Int)))) → ρ' 8 = some (.str (nameAt names (cell / 13 % (names.length : Int)))) → ρ' 9 = some (.int (beginOf cell)) → ρ' 10 = some (.int (leastOf cell)) →
        wpSs (specAt P (k + 1)) [.expr (.append (.var 4) (.tup [.var 7, .var 9, .var 8, .bin .add (.var 9) (.var 10)]))] ρ' (σ.set d (.list true ((tripsOf names ns p0 j).map tripV))) K := by
      intro ρ' p0' p1' p2' p4' p7' p8' p9' p10'
      refine st_app p4' set_self (ev_tup (ev_cons (ev_var p7') (ev_cons (ev_var p9') (ev_cons (ev_var p8') (ev_cons (ev_bin (ev_var p9') (ev_var p10') rfl) ev_nil))))) ?_ (st_nil (hnx _ _ ⟨?_, p0', p1', p2', p4'⟩))
      · simp [tripsOf]; omega
      · rw [set_set, step, List.map_append]; rfl
    by_cases h1 : cell / 64 % 16 = 1
    · refine st_yes (ev_cmp (x := .int (cell / 64 % 16)) (y := .int 1) rfl rfl (eqI_t h1)) (st_asg (v := .int (cell / 1024 % 99000)) rfl (st_asg (v := .int (1 + cell / 1024 % 999)) rfl ?_))
      refine st_no (ev_cmp (x := .int (cell / 64 % 16)) (y := .int 2) rfl rfl (eqI_f (by rw [h1]; decide))) ?_
      exact fin _ r0 r1 r2 r4 rfl rfl (congrArg (fun z => some (V.int z)) (if_pos h1).symm) (congrArg (fun z => some (V.int z)) (by unfold leastOf; rw [if_neg (by rw [h1]; decide), if_pos h1]))
    · refine st_no (ev_cmp (x := .int (cell / 64 % 16)) (y := .int 1) rfl rfl (eqI_f h1)) ?_
      by_cases h2 : cell / 64 % 16 = 2
      · refine st_yes (ev_cmp (x := .int (cell / 64 % 16)) (y := .int 2) rfl rfl (eqI_t h2)) (st_asg (v := .int (1 + cell / 1024 % 99000)) rfl ?_)
        exact fin _ r0 r1 r2 r4 rfl rfl (congrArg (fun z => some (V.int z)) (if_neg h1).symm) (congrArg (fun z => some (V.int z)) (if_pos h2).symm)
      · refine st_no (ev_cmp (x := .int (cell / 64 % 16)) (y := .int 2) rfl rfl (eqI_f h2)) ?_
        exact fin _ r0 r1 r2 r4 rfl rfl (congrArg (fun z => some (V.int z)) (if_neg h1).symm) (congrArg (fun z => some (V.int z)) (by unfold leastOf; rw [if_neg h2, if_neg h1]))
  · rintro ρ σ' ⟨rfl, r0, r1, r2, r4⟩
    rw [rng_len (by omega)]
    refine st_ret (v := .ref d) r4 ?_
    have := q d hd
    simpa using this
/-- what is built of a script -/
structure Built (names : List Str) (rs : List Ride) (ts : List Trip) : Prop where
  nm : NamesOK names
  cnt : 0 < names.length ∧ names.length ≤ 12
  rides : ∀ r ∈ rs, RideOK r ∧ r.1 ∈ names ∧ r.2.1 ∈ names
  trips : ∀ t ∈ ts, TripOK t ∧ t.1 ∈ names ∧ t.2.2.1 ∈ names
  fewR : rs.length ≤ 11
  fewT : ts.length ≤ 10
theorem law_built_ok {ns : List Int} (hz : ns.length ≤ 63) : ∃ names rs ts, Built names rs ts ∧
    ∀ (k : Nat) (σ : Store) (a : Addr) (m : Bool) (Q : Post), σ a = some (.list m (ns.map .int)) →
      (∀ dn dr dt σ', Ext σ σ' → σ' dn = some (.list true (names.map .str)) → σ' dr = some (.list true (rs.map rideV)) → σ' dt = some (.list true (ts.map tripV)) → Q (.tup [.ref dn, .ref dr, .ref dt]) σ') → specAt P (k + 3) 15 [.ref a] σ Q := by
  generalize hf : cellAt ns 0 = first
  generalize hse : cellAt ns 2 = second
  have hm1 : (1 + first % 6).toNat ≤ 12 := by omega
  obtain ⟨names, hN, hNl, hNs⟩ := law_names_ok (cell := cellAt ns 1) hm1
  have hn0 : 0 < names.length := by rw [hNl]; omega
  have hn6 : 0 < names.length ∧ names.length ≤ 1000 := ⟨hn0, by rw [hNl]; exact Nat.le_trans hm1 (by decide)⟩
  -- the first part of the way
  have start : ∀ (k : Nat) (σ : Store) (a : Addr) (m : Bool) (Q : Post), σ a = some (.list m (ns.map .int)) →
      (∀ dn dr dt σ' ρ', Ext σ σ' → σ' dn = some (.list true (names.map .str)) → σ' dr = some (.list true ((ridesOf names ns 4 (first / 6 % 8).toNat).map rideV)) → σ' dt = some (.list true ((tripsOf names ns 12 (second % 9).toNat).map tripV)) →
        ρ' 0 = some (.ref a) → ρ' 1 = some (.int first) → ρ' 2 = some (.int second) → ρ' 3 = some (.ref dn) → ρ' 4 = some (.ref dr) → ρ' 5 = some (.ref dt) →
        wpSs (specAt P (k + 2)) (f_law_built.drop 5) ρ' σ' fun fl _ σ' => Q (match fl with | .ret v => v | .next => .none) σ') → specAt P (k + 3) 15 [.ref a] σ Q := by
    intro k σ a m Q ha q
    refine spec_of (xs := f_law_built) rfl rfl ?_
    unfold f_law_built
    refine st_asgE (wp_call (vs := [.ref a, .int ((0 : Nat) : Int)]) rfl (cell_ok ha hz ?_))
    refine st_asgE (wp_call (vs := [.ref a, .int ((2 : Nat) : Int)]) rfl (cell_ok ha hz ?_))
    rw [hf, hse]
    refine st_asgE ?_
    dsimp only [we_var, we_cst, we_gl, we_bin, we_cmp, we_cmp2, we_and, we_or, we_not, we_sub, we_slc, we_rev, we_list, we_tup, we_dict0, we_dict1, we_comp, we_compIf, we_call, we_len, we_listOf, we_dictOf, we_tupleOf, we_isi, we_max2, we_minOf, we_sorted, we_rng1, we_rng2, we_append, we_insert0, we_pop, we_get1, we_get2, we_nil, we_cons]
    refine ⟨_, rfl, cell_ok (j := 1) ha hz ⟨_, rfl, ⟨by decide, ?_⟩⟩⟩
    refine wb_add ?_
    rw [← toNat_mod1 (c := first) (n := 6) (by decide)]
    refine hNs _ _ _ fun dn hdn => ?_
    have e1 : Ext σ (σ.set dn (.list true (names.map .str))) := Ext.new hdn
    refine st_asgE (wp_call (vs := [.ref a, .int ((4 : Nat) : Int), .ref dn, .int ((first / 6 % 8).toNat : Nat)]) (by rw [toNat_mod (by decide)]; rfl) (law_rides_ok hz (e1 _ _ ha) set_self hN hn6 (mod_small (by decide) (by decide)) fun dr hdr => ?_))
    have e2 := e1.trans (Ext.new (o := .list true ((ridesOf names ns 4 (first / 6 % 8).toNat).map rideV)) hdr)
    have n2 := Ext.new (o := .list true ((ridesOf names ns 4 (first / 6 % 8).toNat).map rideV)) hdr _ _ set_self
    refine st_asgE (wp_call (vs := [.ref a, .int ((12 : Nat) : Int), .ref dn, .int ((second % 9).toNat : Nat)]) (by rw [toNat_mod (by decide)]; rfl) (law_trips_ok hz (e2 _ _ ha) n2 hn6 (mod_small (by decide) (by decide)) fun dt hdt => ?_))
    have e3 := Ext.new (o := .list true ((tripsOf names ns 12 (second % 9).toNat).map tripV)) hdt
    exact q dn dr dt _ _ (e2.trans e3) (e3 _ _ n2) (e3 _ _ set_self) set_self rfl rfl rfl rfl rfl rfl
  have hR := ridesOf_ok hN hn0 (ns := ns) (p0 := 4) (size := (first / 6 % 8).toNat)
  have hRl := ridesOf_len (names := names) (ns := ns) (p0 := 4) (size := (first / 6 % 8).toNat)
  have hT := tripsOf_ok hN hn0 (ns := ns) (p0 := 12) (size := (second % 9).toNat)
  have hTl : (tripsOf names ns 12 (second % 9).toNat).length ≤ 8 := by simp [tripsOf]; omega
  by_cases h2 : second / 9 % 8 = 2
  · -- twelve places in a row
    have h4 : ¬ second / 9 % 4 = 1 := by omega
    obtain ⟨names', hN', hNl', hNs'⟩ := law_names_ok (cell := cellAt ns 1) (many := 12) (by omega)
    generalize hstep : (if second / 72 % 2 = 0 then 1 + first % 20 else 9990 + first % 9) = step
    have hstep1 : 1 ≤ step ∧ step ≤ 9998 := by rw [← hstep]; split <;> omega
    have hcnt : (((2 + first % 10).toNat : Nat) : Int) = 2 + first % 10 := by omega
    refine ⟨names', (List.range (2 + first % 10).toNat).map (fun (j : Nat) => (nameAt names' j, nameAt names' ((j : Int) + 1), step + (j : Int) % 2)), tripsOf names' ns 12 (second % 5).toNat, ⟨hN', by omega, fun r hr => ?_, tripsOf_ok hN' (by omega), by simp; omega, by simp [tripsOf]; omega⟩, ?_⟩
    · obtain ⟨j, hj, rfl⟩ := List.mem_map.mp hr
      have hj' := List.mem_range.mp hj
      have m1 := nameAt_mem (names := names') (i := (j : Int)) (by omega) (by omega)
      have m2 := nameAt_mem (names := names') (i := (j : Int) + 1) (by omega) (by omega)
      refine ⟨⟨hN'.place _ m1, hN'.place _ m2, fun e => ?_, ?_, ?_⟩, m1, m2⟩
      · have := nameAt_inj hN' (by omega) (by omega) (by omega) (by omega) e; omega
      · simp only; omega
      · simp only; omega
    · intro k σ a m Q ha q
      refine start k σ a m Q ha fun dn dr dt σ₁ ρ e₁ _ _ _ r0 r1 r2 r3 r4 r5 => ?_
      simp only [f_law_built, List.drop_succ_cons, List.drop_zero]
      refine st_no (ev_cmp (x := .int (second / 9 % 4)) (y := .int 1) (ev_bin (ev_bin (ev_var r2) rfl rfl) rfl rfl) rfl (eqI_f h4)) ?_
      refine st_yes (ev_cmp (x := .int (second / 9 % 8)) (y := .int 2) (ev_bin (ev_bin (ev_var r2) rfl rfl) rfl rfl) rfl (eqI_t h2)) ?_
      refine st_asgE ?_
      dsimp only [we_var, we_cst, we_gl, we_bin, we_cmp, we_cmp2, we_and, we_or, we_not, we_sub, we_slc, we_rev, we_list, we_tup, we_dict0, we_dict1, we_comp, we_compIf, we_call, we_len, we_listOf, we_dictOf, we_tupleOf, we_isi, we_max2, we_minOf, we_sorted, we_rng1, we_rng2, we_append, we_insert0, we_pop, we_get1, we_get2, we_nil, we_cons]
      refine ⟨_, r0, cell_ok (j := 1) (e₁ _ _ ha) hz (hNs' _ _ _ fun dn' hdn => ?_)⟩
      have e₂ := Ext.new (o := .list true (names'.map .str)) hdn
      refine st_asgE ?_
      have q1 : (ρ.set 3 (.ref dn')) 1 = some (.int first) := r1
      have q2 : (ρ.set 3 (.ref dn')) 2 = some (.int second) := r2
      refine ⟨_, q1, ⟨by decide, _, q1, ⟨by decide, fun dl hdl => ⟨_, q2, ⟨by decide, by decide, ⟨by decide, .int step, ?_, ?_⟩⟩⟩⟩⟩⟩
      · refine list_sub set_self (by omega) ?_
        rw [← hstep]
        by_cases h0 : second / 72 % 2 = 0
        · rw [h0, if_pos rfl]; rfl
        · have : second / 72 % 2 = 1 := by omega
          rw [this]; rfl
      have e₃ := Ext.new (o := .list true [.int (1 + first % 20), .int (9990 + first % 9)]) hdl
      have hn3 : ((σ₁.set dn' (.list true (names'.map .str))).set dl (.list true [.int (1 + first % 20), .int (9990 + first % 9)])) dn' = some (.list true (names'.map .str)) := e₃ _ _ set_self
      refine st_asgE (wp_compR (n := 2 + first % 10) (ev_rng1 (ev_bin (y := .int (first % 10)) rfl (ev_bin (ev_var r1) rfl rfl) rfl)) (by omega) (fun j => rideV (nameAt names' j, nameAt names' ((j : Int) + 1), step + (j : Int) % 2)) (fun j hj => ?_) fun dr' hdr => ?_)
      · exact ev_tup (ev_cons (ev_sub (y := .int j) (ev_var rfl) rfl (sub_name hn3 (by omega) (by omega))) (ev_cons (ev_sub (y := .int ((j : Int) + 1)) (ev_var rfl) rfl (sub_name hn3 (by omega) (by omega))) (ev_cons (ev_bin (x := .int step) (y := .int ((j : Int) % 2)) (ev_var rfl) rfl rfl) ev_nil)))
      have e₄ := Ext.new (o := .list true ((List.range (2 + first % 10).toNat).map fun (j : Nat) => rideV (nameAt names' j, nameAt names' ((j : Int) + 1), step + (j : Int) % 2))) hdr
      have ea : Ext σ _ := ((e₁.trans e₂).trans e₃).trans e₄
      refine st_asgE (wp_call (vs := [.ref a, .int ((12 : Nat) : Int), .ref dn', .int ((second % 5).toNat : Nat)]) ?_ (law_trips_ok hz (ea _ _ ha) (e₄ _ _ hn3) (by omega) (mod_small (by decide) (by decide)) fun dt' hdt => ?_))
      · rw [toNat_mod (by decide)]
        exact ev_cons (ev_var r0) (ev_cons rfl (ev_cons (ev_var rfl) (ev_cons (ev_bin (ev_var r2) rfl rfl) ev_nil)))
      have e₅ := Ext.new (o := .list true ((tripsOf names' ns 12 (second % 5).toNat).map tripV)) hdt
      refine st_ret (v := .tup [.ref dn', .ref dr', .ref dt']) rfl (q dn' dr' dt' _ (ea.trans e₅) (e₅ _ _ (e₄ _ _ hn3)) ?_ set_self)
      have := e₅ _ _ (set_self (σ := ((σ₁.set dn' (.list true (names'.map .str))).set dl (.list true [.int (1 + first % 20), .int (9990 + first % 9)]))) (p := dr') (o := .list true ((List.range (2 + first % 10).toNat).map fun (j : Nat) => rideV (nameAt names' j, nameAt names' ((j : Int) + 1), step + (j : Int) % 2))))
      rw [List.map_map]
      exact this
  · by_cases h4 : second / 9 % 4 = 1
    · refine ⟨names, ridesOf names ns 4 (first / 6 % 8).toNat, tripsOf names ns 12 (second % 9).toNat ++ (tripsOf names ns 12 (second % 9).toNat).take 2, ⟨hN, by omega, hR, fun t ht => ?_, by omega, by simp only [List.length_append, List.length_take]; omega⟩, ?_⟩
      · rcases List.mem_append.mp ht with ht | ht
        · exact hT t ht
        · exact hT t (List.mem_of_mem_take ht)
      · intro k σ a m Q ha q
        refine start k σ a m Q ha fun dn dr dt σ₁ ρ e₁ hdn hdr hdt r0 r1 r2 r3 r4 r5 => ?_
        simp only [f_law_built, List.drop_succ_cons, List.drop_zero]
        refine st_yes (ev_cmp (x := .int (second / 9 % 4)) (y := .int 1) (ev_bin (ev_bin (ev_var r2) rfl rfl) rfl rfl) rfl (eqI_t h4)) ?_
        refine st_asgE ?_
        refine ⟨_, r5, _, r5, dt, true, _, _, _, rfl, hdt, by simp; omega, rfl, rfl, fun dx hdx => ?_⟩
        have e₂ : Ext σ₁ _ := Ext.new (o := .list true ((((tripsOf names ns 12 (second % 9).toNat).map tripV).drop 0).take (min 2 ((tripsOf names ns 12 (second % 9).toNat).map tripV).length - 0))) hdx
        refine ⟨_, _, e₂ _ _ hdt, set_self, by simp; omega, fun dy hdy => ?_⟩
        have e₃ := Ext.new (o := .list true ((tripsOf names ns 12 (second % 9).toNat).map tripV ++ (((tripsOf names ns 12 (second % 9).toNat).map tripV).drop 0).take (min 2 ((tripsOf names ns 12 (second % 9).toNat).map tripV).length - 0))) hdy
        refine st_no (ev_cmp (x := .int (second / 9 % 8)) (y := .int 2) (ev_bin (ev_bin (ev_var r2) rfl rfl) rfl rfl) rfl (eqI_f h2)) ?_
        refine st_ret (v := .tup [.ref dn, .ref dr, .ref dy]) (ev_tup (ev_cons (ev_var r3) (ev_cons (ev_var r4) (ev_cons (ev_var rfl) ev_nil)))) (q dn dr dy _ ((e₁.trans e₂).trans e₃) (e₃ _ _ (e₂ _ _ hdn)) (e₃ _ _ (e₂ _ _ hdr)) ?_)
        rw [set_self]
        have cut : ∀ l : List V, (l.drop 0).take (min 2 l.length - 0) = l.take 2 := fun l => by
          rw [List.drop_zero, Nat.sub_zero]
          rcases Nat.le_total 2 l.length with h | h
          · rw [Nat.min_eq_left h]
          · rw [Nat.min_eq_right h, List.take_length, List.take_of_length_le h]
        have cut' : ∀ l : List V, (l.drop 0).take ((if (0 : Int) ≤ 2 then min (Int.toNat 2) l.length else ((l.length : Int) + 2).toNat) - 0) = l.take 2 := fun l => by
          rw [if_pos (by decide)]; exact cut l
        rw [cut', List.map_append, List.map_take]
    · refine ⟨names, ridesOf names ns 4 (first / 6 % 8).toNat, tripsOf names ns 12 (second % 9).toNat, ⟨hN, by omega, hR, hT, by omega, by omega⟩, ?_⟩
      intro k σ a m Q ha q
      refine start k σ a m Q ha fun dn dr dt σ₁ ρ e₁ hdn hdr hdt r0 r1 r2 r3 r4 r5 => ?_
      simp only [f_law_built, List.drop_succ_cons, List.drop_zero]
      refine st_no (ev_cmp (x := .int (second / 9 % 4)) (y := .int 1) (ev_bin (ev_bin (ev_var r2) rfl rfl) rfl rfl) rfl (eqI_f h4)) ?_
      refine st_no (ev_cmp (x := .int (second / 9 % 8)) (y := .int 2) (ev_bin (ev_bin (ev_var r2) rfl rfl) rfl rfl) rfl (eqI_f h2)) ?_
      exact st_ret (v := .tup [.ref dn, .ref dr, .ref dt]) (ev_tup (ev_cons (ev_var r3) (ev_cons (ev_var r4) (ev_cons (ev_var r5) ev_nil)))) (q dn dr dt σ₁ e₁ hdn hdr hdt)
end Mine

namespace Mine
open PySem
theorem relax_none {es : Es} {r : Ride} (h : relax es r = none) {d : Int} (hd : getE es r.1 = some d) : ∃ d', getE es r.2.1 = some d' ∧ d' ≤ d + r.2.2 := by
  unfold relax at h
  rw [hd] at h
  simp only at h
  split at h
  · cases h
  · rename_i d' hd'
    split at h
    · cases h
    · exact ⟨d', hd', by omega⟩
theorem Least.tight {roads : List Ride} {place : Str} {es : Es} (L : Least roads place es) {x : Str} {v : Int} (h : getE es x = some v) (hx : x ≠ place) : ∃ r ∈ roads, r.2.1 = x ∧ ∃ d, getE es r.1 = some d ∧ d + r.2.2 = v := by
  obtain ⟨r, hr, h1, d, h2, h3⟩ := L.inv.back x v h hx
  obtain ⟨d', h4, h5⟩ := relax_none (L.done r hr) h2
  rw [h1, h] at h4
  cases h4
  exact ⟨r, hr, h1, d, h2, by omega⟩
theorem datL_cons {f : V → Option PyData} {v : V} {r : List V} {d : PyData} {ds : List PyData} (h : f v = some d) (h' : datL f r = some ds) : datL f (v :: r) = some (d :: ds) := by
  show (match f v, datL f r with | some d, some ds => some (d :: ds) | _, _ => Option.none) = _
  rw [h, h']
theorem datL_map {α : Type} {f : V → Option PyData} {g : α → V} {h : α → PyData} : ∀ {l : List α}, (∀ x ∈ l, f (g x) = some (h x)) → datL f (l.map g) = some (l.map h)
  | [], _ => rfl
  | a :: l, e => datL_cons (e a (.head _)) (datL_map (l := l) fun x hx => e x (List.mem_cons_of_mem _ hx))
theorem dat_list {σ : Store} {a : Addr} {m : Bool} {l : List V} {n : Nat} {ds : List PyData} (h : σ a = some (.list m l)) (hd : datL (dat σ n) l = some ds) : dat σ (n + 1) (.ref a) = some (.list ds) := by
  show (match σ a with | some (.list _ l) => (datL (dat σ n) l).map PyData.list | _ => Option.none) = _
  rw [h]
  exact congrArg (Option.map PyData.list) hd
theorem all_cons {α : Type} {p : α → Prop} {a : α} {l : List α} (h : p a) (h' : ∀ x ∈ l, p x) : ∀ x ∈ a :: l, p x := fun x hx => by
  cases hx with
  | head => exact h
  | tail _ hx => exact h' x hx
theorem all_map {α β : Type} {p : β → Prop} {f : α → β} {l : List α} (h : ∀ x, p (f x)) : ∀ x ∈ l.map f, p x := fun x hx => by
  obtain ⟨y, _, rfl⟩ := List.mem_map.mp hx; exact h y
theorem eqV_lists {σ : Store} {a d : Addr} {m m' : Bool} {l l' : List V} {x y : PyData} (ha : σ a = some (.list m l)) (hd : σ d = some (.list m' l')) (hx : dat σ 4 (.ref a) = some x) (hy : dat σ 4 (.ref d) = some y) : eqV σ (.ref a) (.ref d) = some (PyData.eqv x y) := by
  show (match σ a, σ d with | some (.ds _ es), some (.ds _ es') => eqD es es' | _, _ => eqT σ (.ref a) (.ref d)) = _
  rw [ha, hd]
  show (match dat σ 4 (.ref a), dat σ 4 (.ref d) with | some d, some e => some (PyData.eqv d e) | _, _ => Option.none) = _
  rw [hx, hy]
end Mine

namespace Mine
open PySem
section
variable {S : Spec} {ρ : Loc} {σ : Store}
/-- a comprehension with a filter, over a list of things -/
theorem wp_compIfM {α : Type} {h : α → V} {l : List α} {Q : Post} {t : Tgt} {it elt c : X} {p : Addr} {m : Bool} (hi : evP ρ σ it = some (.ref p)) (hp : σ p = some (.list m (l.map h))) (hz : l.length ≤ 1000000) (g : α → Bool) (f : α → V) (he : ∀ x ∈ l, ∃ ρ', bindT t (h x) ρ = some ρ' ∧ evP ρ' σ c = some (.bool (g x)) ∧ (g x = true → evP ρ' σ elt = some (f x)))
    (q : ∀ d, σ d = none → Q (.ref d) (σ.set d (.list true ((l.filter g).map f)))) : wpE S (.compIf t it c elt) ρ σ Q := by
  dsimp only [we_var, we_cst, we_gl, we_bin, we_cmp, we_cmp2, we_and, we_or, we_not, we_sub, we_slc, we_rev, we_list, we_tup, we_dict0, we_dict1, we_comp, we_compIf, we_call, we_len, we_listOf, we_dictOf, we_tupleOf, we_isi, we_max2, we_minOf, we_sorted, we_rng1, we_rng2, we_append, we_insert0, we_pop, we_get1, we_get2, we_nil, we_cons]
  refine evP_ok hi ⟨_, _, .list hp, by rw [List.length_map]; exact hz, ?_⟩
  refine compW_of (fun k acc σ' => σ' = σ ∧ acc = ((l.take k).filter g).map f) (fun _ _ _ _ h => by rw [h.1]; exact ⟨_, hp⟩) ?_ ?_ ⟨rfl, rfl⟩
  · rintro k v acc σ' K₁ K₂ hv ⟨rfl, rfl⟩ h1 h2 h3
    rw [List.getElem?_map] at hv
    obtain ⟨x, hx, rfl⟩ := Option.map_eq_some_iff.mp hv
    obtain ⟨ρ', b1, b2, b3⟩ := he x (List.mem_of_getElem? hx)
    refine ⟨ρ', b1, evP_ok b2 ?_⟩
    cases hg : g x with
    | true => exact h1 _ h3 ⟨ρ', b1, evP_ok (b3 hg) (h3 _ _ ⟨rfl, by rw [take_more hx, List.filter_append, List.map_append, List.filter_cons_of_pos hg]; rfl⟩)⟩
    | false => exact h2 _ ⟨rfl, by rw [take_more hx, List.filter_append, List.filter_cons_of_neg (by rw [hg]; decide), List.filter_nil, List.append_nil]⟩
  · rintro acc σ' ⟨rfl, rfl⟩ d hd
    rw [List.length_map, List.take_length]
    exact q d hd
end
end Mine

namespace Mine
open PySem

/-! the law's own least minutes: as many passes as roads, and one more -/
noncomputable def rstep (es : Es) (r : Ride) : Es := (relax es r).getD es
noncomputable def rpass (roads : List Ride) (es : Es) : Es := roads.foldl rstep es
noncomputable def rpasses (roads : List Ride) : Nat → Es → Es
  | 0, es => es
  | n + 1, es => rpass roads (rpasses roads n es)
theorem rstep_cases (es : Es) (r : Ride) : (rstep es r = es ∧ relax es r = none) ∨ ∃ d, getE es r.1 = some d ∧ relax es r = some (putE es r.2.1 (d + r.2.2)) ∧ rstep es r = putE es r.2.1 (d + r.2.2) ∧ ∀ v, getE es r.2.1 = some v → d + r.2.2 < v := by
  cases h : relax es r with
  | none => exact .inl ⟨by unfold rstep; rw [h]; rfl, rfl⟩
  | some e =>
    refine .inr ?_
    have h' := h
    unfold relax at h
    cases h1 : getE es r.1 with
    | none => rw [h1] at h; cases h
    | some d =>
      rw [h1] at h
      refine ⟨d, rfl, ?_⟩
      cases h2 : getE es r.2.1 with
      | none =>
        rw [h2] at h; cases h
        exact ⟨rfl, by unfold rstep; rw [h']; rfl, fun v hv => by cases hv⟩
      | some d' =>
        rw [h2] at h
        have h3 : (if d + r.2.2 < d' then some (putE es r.2.1 (d + r.2.2)) else none) = some e := h
        by_cases hc : d + r.2.2 < d'
        · rw [if_pos hc] at h3; cases h3
          exact ⟨rfl, by unfold rstep; rw [h']; rfl, fun v hv => by cases hv; exact hc⟩
        · rw [if_neg hc] at h3; cases h3
section
variable {roads : List Ride} {place : Str} {e0 : Es}
/-- never under the least -/
noncomputable def AtLeast (e0 es : Es) : Prop := ∀ x v, getE es x = some v → ∃ d, getE e0 x = some d ∧ d ≤ v
structure PInv (roads : List Ride) (place : Str) (e0 es : Es) : Prop where
  inv : EInv roads place es
  ge : AtLeast e0 es
theorem rstep_inv (L : Least roads place e0) (hp : ∀ r ∈ roads, 1 ≤ r.2.2) {es : Es} {r : Ride} (hr : r ∈ roads) (h : PInv roads place e0 es) : PInv roads place e0 (rstep es r) := by
  rcases rstep_cases es r with ⟨e, _⟩ | ⟨d, h1, h2, h3, h4⟩
  · rw [e]; exact h
  · refine ⟨by rw [h3]; exact (relax_inv hp hr h.inv h2).1, fun x v hv => ?_⟩
    rw [h3, get_put] at hv
    by_cases hx : x = r.2.1
    · rw [if_pos hx] at hv; cases hv
      obtain ⟨d0, g1, g2⟩ := h.ge _ _ h1
      obtain ⟨d1, g3, g4⟩ := relax_none (L.done r hr) g1
      exact ⟨d1, by rw [hx]; exact g3, Int.le_trans g4 (Int.add_le_add_right g2 _)⟩
    · rw [if_neg hx] at hv; exact h.ge _ _ hv
theorem rstep_fin (L : Least roads place e0) {es : Es} {r : Ride} (hr : r ∈ roads) (h : PInv roads place e0 es) {x : Str} {v : Int} (h0 : getE e0 x = some v) (hx : getE es x = some v) : getE (rstep es r) x = some v := by
  rcases rstep_cases es r with ⟨e, _⟩ | ⟨d, h1, h2, h3, h4⟩
  · rw [e]; exact hx
  · rw [h3, get_put]
    by_cases hz : x = r.2.1
    · exfalso
      have k1 := h4 v (by rw [← hz]; exact hx)
      obtain ⟨d0, g1, g2⟩ := h.ge _ _ h1
      obtain ⟨d1, g3, g4⟩ := relax_none (L.done r hr) g1
      rw [← hz, h0] at g3; cases g3
      omega
    · rw [if_neg hz]; exact hx
theorem rstep_new {es : Es} {r : Ride} (h : PInv roads place e0 es) {d : Int} (h0 : getE e0 r.2.1 = some (d + r.2.2)) (hx : getE es r.1 = some d) : getE (rstep es r) r.2.1 = some (d + r.2.2) := by
  rcases rstep_cases es r with ⟨e, hn⟩ | ⟨d', h1, h2, h3, h4⟩
  · rw [e]
    obtain ⟨d', g1, g2⟩ := relax_none hn hx
    obtain ⟨d'', g3, g4⟩ := h.ge _ _ g1
    rw [h0] at g3; cases g3
    rw [g1]; exact congrArg some (Int.le_antisymm g2 g4)
  · rw [hx] at h1; cases h1
    rw [h3, get_put, if_pos rfl]
theorem fold_inv (L : Least roads place e0) (hp : ∀ r ∈ roads, 1 ≤ r.2.2) : ∀ {rs : List Ride} {es : Es}, (∀ r ∈ rs, r ∈ roads) → PInv roads place e0 es →
    PInv roads place e0 (rs.foldl rstep es) ∧ (∀ x v, getE e0 x = some v → getE es x = some v → getE (rs.foldl rstep es) x = some v) ∧
    ∀ r ∈ rs, ∀ d, getE e0 r.1 = some d → getE e0 r.2.1 = some (d + r.2.2) → getE es r.1 = some d → getE (rs.foldl rstep es) r.2.1 = some (d + r.2.2)
  | [], es, _, h => ⟨h, fun _ _ _ h => h, fun _ h => by cases h⟩
  | r :: rs, es, hs, h => by
    have hr := hs r (.head _)
    obtain ⟨i1, i2, i3⟩ := fold_inv L hp (fun x hx => hs x (List.mem_cons_of_mem _ hx)) (rstep_inv L hp hr h)
    refine ⟨i1, fun x v h0 hx => i2 x v h0 (rstep_fin L hr h h0 hx), fun s hm d h0 h1 h2 => ?_⟩
    rcases List.mem_cons.mp hm with rfl | hm
    · exact i2 _ _ h1 (rstep_new h h1 h2)
    · exact i3 s hm d h0 h1 (rstep_fin L hr h h0 h2)
noncomputable def lag (e0 es : Es) : Nat := (e0.map fun e => if getE es e.1 = some e.2 then 0 else 1).sum
theorem lag_zero {es : Es} : ∀ {l : Es}, (l.map fun e => if getE es e.1 = some e.2 then 0 else 1).sum = 0 → ∀ e ∈ l, getE es e.1 = some e.2
  | [], _, e, he => by cases he
  | a :: l, h, e, he => by
    rw [List.map_cons, List.sum_cons] at h
    have h1 := Nat.eq_zero_of_add_eq_zero_right h
    have h2 := Nat.eq_zero_of_add_eq_zero_left h
    rcases List.mem_cons.mp he with rfl | he
    · by_cases hc : getE es e.1 = some e.2
      · exact hc
      · rw [if_neg hc] at h1; cases h1
    · exact lag_zero h2 e he
theorem lag_le {es : Es} : ∀ {l : Es}, (l.map fun e => if getE es e.1 = some e.2 then 0 else 1).sum ≤ l.length
  | [] => Nat.le_refl _
  | a :: l => by
    rw [List.map_cons, List.sum_cons, List.length_cons, Nat.add_comm]
    refine Nat.add_le_add lag_le ?_
    split
    · exact Nat.zero_le _
    · exact Nat.le_refl _
theorem sum_zero {α : Type} : ∀ {l : List α}, (l.map fun _ => 0).sum = 0
  | [] => rfl
  | _ :: l => by rw [List.map_cons, List.sum_cons, sum_zero]
theorem pass_lag (L : Least roads place e0) (hp : ∀ r ∈ roads, 1 ≤ r.2.2) {es : Es} (h : PInv roads place e0 es) : lag e0 (rpass roads es) ≤ lag e0 es - 1 := by
  obtain ⟨i1, i2, i3⟩ := fold_inv L hp (rs := roads) (fun _ h => h) h
  by_cases hz : lag e0 es = 0
  · have all := lag_zero hz
    rw [hz]
    have : lag e0 (rpass roads es) = lag e0 es := by
      unfold lag
      refine congrArg List.sum (List.map_congr_left fun e he => ?_)
      rw [if_pos (all e he), if_pos (show getE (rpass roads es) e.1 = some e.2 from i2 _ _ (mem_get L.inv.nd he) (all e he))]
    rw [this, hz]; exact Nat.le_refl _
  · have le : ∀ e ∈ e0, (if getE (rpass roads es) e.1 = some e.2 then 0 else 1) ≤ (if getE es e.1 = some e.2 then 0 else 1) := fun e he => by
      by_cases hc : getE es e.1 = some e.2
      · rw [if_pos (show getE (rpass roads es) e.1 = some e.2 from i2 _ _ (mem_get L.inv.nd he) hc)]; exact Nat.zero_le _
      · rw [if_neg hc]; split
        · exact Nat.zero_le _
        · exact Nat.le_refl _
    -- one that lags, and whose road's start does not
    have find : ∀ n x v, getE e0 x = some v → v.toNat = n → ¬ getE es x = some v → ∃ y u, getE e0 y = some u ∧ ¬ getE es y = some u ∧ getE (rpass roads es) y = some u := by
      intro n
      induction n using Nat.strongRecOn with
      | ind n ih =>
        intro x v h0 hn hx
        have hxp : x ≠ place := by
          rintro rfl
          rw [L.inv.zero] at h0; cases h0
          exact hx h.inv.zero
        obtain ⟨r, hr, g1, d, g2, g3⟩ := L.tight h0 hxp
        subst g1; subst g3
        by_cases hc : getE es r.1 = some d
        · exact ⟨_, _, h0, hx, i3 r hr d g2 h0 hc⟩
        · have k1 := hp r hr
          have k2 := L.inv.pos _ _ g2
          exact ih d.toNat (by omega) _ d g2 rfl hc
    have lags : ∃ e ∈ e0, ¬ getE es e.1 = some e.2 := by
      refine Classical.byContradiction fun hno => hz ?_
      have all : ∀ e ∈ e0, getE es e.1 = some e.2 := fun e he => Classical.byContradiction fun hc => hno ⟨e, he, hc⟩
      unfold lag
      have : e0.map (fun e => if getE es e.1 = some e.2 then 0 else 1) = e0.map fun _ => 0 := List.map_congr_left fun e he => if_pos (all e he)
      rw [this]; exact sum_zero
    obtain ⟨e, he, hne⟩ := lags
    obtain ⟨y, u, y1, y2, y3⟩ := find _ _ _ (mem_get L.inv.nd he) rfl hne
    have := sum_lt le ⟨(y, u), get_mem y1, by
      show (if getE (rpass roads es) y = some u then 0 else 1) < (if getE es y = some u then 0 else 1)
      rw [if_pos y3, if_neg y2]; exact Nat.zero_lt_one⟩
    exact Nat.le_sub_one_of_lt this
theorem start_inv : EInv roads place [(place, 0)] := by
  have g : ∀ x v, getE [(place, (0 : Int))] x = some v → x = place ∧ v = 0 := by
    intro x v h
    unfold getE at h
    rw [List.find?_cons] at h
    by_cases hx : place = x
    · simp only [hx, decide_true, Option.map_some] at h; cases h; exact ⟨hx.symm, rfl⟩
    · simp only [hx, decide_false] at h; cases h
  refine ⟨by simp [getE], fun x v h => ?_, fun x v h hx => absurd (g x v h).1 hx, by simp, by simp⟩
  rw [(g x v h).2]; exact Int.le_refl _
theorem passes_inv (L : Least roads place e0) (hp : ∀ r ∈ roads, 1 ≤ r.2.2) : ∀ n, PInv roads place e0 (rpasses roads n [(place, 0)]) ∧ lag e0 (rpasses roads n [(place, 0)]) ≤ e0.length - n
  | 0 => ⟨⟨start_inv, fun x v h => by
      unfold getE at h
      rw [show rpasses roads 0 [(place, 0)] = [(place, 0)] from rfl, List.find?_cons] at h
      by_cases hx : place = x
      · simp only [hx, decide_true, Option.map_some] at h; cases h
        exact ⟨0, by rw [← hx]; exact L.inv.zero, Int.le_refl _⟩
      · simp only [hx, decide_false] at h; cases h⟩, lag_le⟩
  | n + 1 => by
    obtain ⟨h1, h2⟩ := passes_inv L hp n
    refine ⟨(fold_inv L hp (rs := roads) (fun _ h => h) h1).1, Nat.le_trans (pass_lag L hp h1) ?_⟩
    omega
/-- the law's least minutes are the program's -/
theorem passes_same (L : Least roads place e0) (hp : ∀ r ∈ roads, 1 ≤ r.2.2) : ∀ x, getE (rpasses roads (roads.length + 1) [(place, 0)]) x = getE e0 x := by
  obtain ⟨h1, h2⟩ := passes_inv L hp (roads.length + 1)
  have hl := L.inv.len
  have all := lag_zero (Nat.eq_zero_of_le_zero (Nat.le_trans h2 (by omega)))
  intro x
  cases h0 : getE e0 x with
  | some v => exact all _ (get_mem h0)
  | none =>
    cases h3 : getE (rpasses roads (roads.length + 1) [(place, 0)]) x with
    | none => rfl
    | some v => obtain ⟨d, h4, _⟩ := h1.ge _ _ h3; rw [h0] at h4; cases h4
/-! a way along tight roads -/
inductive Chain (roads : List Ride) (es : Es) : Str → Str → List Str → Prop where
  | one {y} : Chain roads es y y [y]
  | step {x z y p r d} : r ∈ roads → r.1 = x → r.2.1 = z → getE es x = some d → getE es z = some (d + r.2.2) → Chain roads es z y p → Chain roads es x y (x :: p)
theorem Chain.grow (hp : ∀ r ∈ roads, 1 ≤ r.2.2) {es : Es} {x y : Str} {p : List Str} (h : Chain roads es x y p) : ∀ {d}, getE es x = some d → ∃ e, getE es y = some e ∧ d ≤ e ∧ (p.length = 1 ∨ d < e) := by
  induction h with
  | one => exact fun hd => ⟨_, hd, Int.le_refl _, .inl rfl⟩
  | step hr h1 h2 h3 h4 _ ih =>
    intro d' hd'
    rw [h3] at hd'; cases hd'
    obtain ⟨e, k1, k2, _⟩ := ih h4
    have := hp _ hr
    exact ⟨e, k1, by omega, .inr (by omega)⟩
theorem Chain.head {es : Es} {x y : Str} {p : List Str} (h : Chain roads es x y p) : p[0]? = some x := by cases h <;> rfl
theorem Chain.last {es : Es} {x y : Str} {p : List Str} (h : Chain roads es x y p) : ∃ n, p.length = n + 1 ∧ p[n]? = some y := by
  induction h with
  | one => exact ⟨0, rfl, rfl⟩
  | step _ _ _ _ _ _ ih => obtain ⟨n, h1, h2⟩ := ih; exact ⟨n + 1, by rw [List.length_cons, h1], h2⟩
theorem Chain.at {es : Es} {x y : Str} {p : List Str} (h : Chain roads es x y p) : ∀ {k : Nat} {a b : Str}, p[k]? = some a → p[k + 1]? = some b → ∃ r ∈ roads, r.1 = a ∧ r.2.1 = b ∧ ∃ d, getE es a = some d ∧ getE es b = some (d + r.2.2) := by
  induction h with
  | one => intro k a b _ h; cases h
  | step hr h1 h2 h3 h4 hc ih =>
    intro k a b ha hb
    cases k with
    | zero => cases ha; cases (Eq.trans (show some b = _ from hb.symm) hc.head : some b = some _); exact ⟨_, hr, h1, h2, _, h3, h4⟩
    | succ k => exact ih ha hb
theorem Chain.mem {es : Es} {x y : Str} {p : List Str} {T : Str → Prop} (h : Chain roads es x y p) (hy : T y) (hr : ∀ r ∈ roads, T r.1) : ∀ a ∈ p, T a := by
  induction h with
  | one => intro a ha; cases ha with | head => exact hy | tail _ h => cases h
  | step h0 h1 _ _ _ _ ih =>
    intro a ha
    cases ha with
    | head => rw [← h1]; exact hr _ h0
    | tail _ h => exact ih hy a h
theorem Chain.nodup (hp : ∀ r ∈ roads, 1 ≤ r.2.2) {es : Es} {x y : Str} {p : List Str} (h : Chain roads es x y p) : ∀ {d}, getE es x = some d → p.Nodup ∧ ∀ a ∈ p, ∃ e, getE es a = some e ∧ d ≤ e := by
  induction h with
  | one => exact fun hd => ⟨List.nodup_cons.mpr ⟨(fun h => nomatch h), List.nodup_nil⟩, fun a ha => by cases ha with | head => exact ⟨_, hd, Int.le_refl _⟩ | tail _ h => cases h⟩
  | step hr h1 h2 h3 h4 _ ih =>
    intro d' hd'
    rw [h3] at hd'; cases hd'
    obtain ⟨i1, i2⟩ := ih h4
    have hw := hp _ hr
    refine ⟨List.nodup_cons.mpr ⟨fun hm => ?_, i1⟩, fun a ha => ?_⟩
    · obtain ⟨e, e1, e2⟩ := i2 _ hm
      rw [h3] at e1; cases e1; omega
    · cases ha with
      | head => exact ⟨_, h3, Int.le_refl _⟩
      | tail _ ha => obtain ⟨e, e1, e2⟩ := i2 _ ha; exact ⟨e, e1, by omega⟩
theorem Chain.len (hp : ∀ r ∈ roads, 1 ≤ r.2.2) {es : Es} (hI : EInv roads place es) {x y : Str} {p : List Str} (h : Chain roads es x y p) {d : Int} (hd : getE es x = some d) : p.length ≤ roads.length + 1 := by
  obtain ⟨h1, h2⟩ := h.nodup hp hd
  refine Nat.le_trans (nodup_len h1 (m := es.map (·.1)) fun a ha => ?_) (by rw [List.length_map]; exact hI.len)
  obtain ⟨e, he, _⟩ := h2 a ha
  exact List.mem_map.mpr ⟨_, get_mem he, rfl⟩
end
end Mine

namespace Mine
open PySem
theorem roads_pos {rs : List Ride} {ts : List Trip} (hr : ∀ r ∈ rs, RideOK r) (ht : ∀ t ∈ ts, TripOK t) : ∀ r ∈ roadsOf rs ts, 1 ≤ r.2.2 := by
  intro r h
  rcases List.mem_append.mp h with h | h
  · exact (hr r h).2.2.2.1
  · obtain ⟨t, ht', h⟩ := List.mem_flatMap.mp h
    unfold tripRoad at h
    split at h
    · cases h
    · cases h with
      | head => have := (ht t ht').2.2.2.1; show 1 ≤ t.2.2.2 - t.2.1; omega
      | tail _ h => cases h
theorem roads_len {rs : List Ride} {ts : List Trip} (hz : rs.length + ts.length ≤ 1000) : (roadsOf rs ts).length ≤ 1000 := by
  unfold roadsOf; rw [List.length_append]; exact Nat.le_trans (Nat.add_le_add_left (tripRoad_len ts) _) hz
theorem law_least_ok {roads : List Ride} {place : Str} {e0 : Es} (L : Least roads place e0) (hp : ∀ r ∈ roads, 1 ≤ r.2.2) (hz : roads.length ≤ 1000) {k : Nat} {σ : Store} {a : Addr} {m : Bool} {Q : Post} (ha : σ a = some (.list m (roads.map rideV)))
    (q : ∀ d, σ d = none → Q (.ref d) (σ.set d (.ds true (esV (rpasses roads (roads.length + 1) [(place, 0)]))))) : specAt P (k + 1) 22 [.ref a, .str place] σ Q := by
  refine spec_of (xs := f_law_least) rfl rfl ?_
  unfold f_law_least
  refine st_asgE ?_
  refine ⟨_, rfl, place, rfl, fun d hd => ?_⟩
  have had : a ≠ d := by rintro rfl; rw [hd] at ha; cases ha
  have ha' : ∀ o, (σ.set d o) a = some (.list m (roads.map rideV)) := fun o => by rw [set_ne had]; exact ha
  have hz' : (roads.map rideV).length ≤ 1000000 := by rw [List.length_map]; exact Nat.le_trans hz (by decide)
  have e1 : (((roads.map rideV).length : Int) + 1) = ((roads.length + 1 : Nat) : Int) := by rw [List.length_map]; rfl
  refine st_forR (n := ((roads.length + 1 : Nat) : Int)) (ev_rng1 (by rw [← e1]; exact ev_add (ev_lenL (ha' _) hz' (ev_var rfl)) rfl)) (by omega) (forW_of (fun j ρ' σ' => σ' = σ.set d (.ds true (esV (rpasses roads j [(place, 0)]))) ∧ ρ' 0 = some (.ref a) ∧ ρ' 2 = some (.ref d)) (fun _ _ _ _ _ => trivial) ?_ ?_ ⟨rfl, rfl, rfl⟩)
  · rintro j w ρ' _ K hw ⟨rfl, r0, r2⟩ hn hx
    refine ⟨_, rfl, ?_⟩
    have hI := (passes_inv L hp j).1
    generalize hes : rpasses roads j [(place, 0)] = es at hI
    have hnx : rpasses roads (j + 1) [(place, 0)] = rpass roads es := by rw [← hes]; rfl
    rw [hnx] at hn
    refine st_forL (p := a) (ev_var r0) (ha' _) (forW_of (fun i ρ'' σ' => σ' = σ.set d (.ds true (esV ((roads.take i).foldl rstep es))) ∧ ρ'' 0 = some (.ref a) ∧ ρ'' 2 = some (.ref d)) ?_ ?_ ?_ ⟨rfl, r0, r2⟩)
    · rintro i ρ'' σ' _ ⟨rfl, _⟩; exact ⟨_, ha' _⟩
    · rintro i w' ρ'' _ K' hw' ⟨rfl, p0, p2⟩ hn' hx'
      rw [List.getElem?_map] at hw'
      obtain ⟨r, hr, rfl⟩ := Option.map_eq_some_iff.mp hw'
      have hJ := (fold_inv L hp (rs := roads.take i) (fun r hr => List.mem_of_mem_take hr) hI).1
      rw [take_more hr, List.foldl_append] at hn'
      refine ⟨_, rfl, ?_⟩
      generalize (roads.take i).foldl rstep es = es' at hJ hn' ⊢
      have hlen := hJ.inv.len
      have hs : (σ.set d (.ds true (esV es'))) d = some (.ds true (esV es')) := set_self
      have s0 : evP (ρ''.set 4 (rideV r)) (σ.set d (.ds true (esV es'))) (.sub (.var 4) (.cst (.int 0))) = some (.str r.1) := rfl
      have hc := ev_in (ρ := ρ''.set 4 (rideV r)) (b := .var 2) hs s0 (ev_var p2)
      rcases rstep_cases es' r with ⟨g1, g2⟩ | ⟨e, g1, g2, g3, g4⟩
      · have nx : ∀ ρ₃ : Loc, ρ₃ 0 = some (.ref a) → ρ₃ 2 = some (.ref d) → K' .next ρ₃ (σ.set d (.ds true (esV es'))) := fun ρ₃ z0 z2 => hn' _ _ ⟨by rw [List.foldl_cons, List.foldl_nil, g1], z0, z2⟩
        cases h1 : getE es' r.1 with
        | none => rw [h1] at hc; exact st_no hc (st_nil (nx _ p0 p2))
        | some e =>
          rw [h1] at hc
          obtain ⟨d', h3, h4⟩ := relax_none g2 h1
          refine st_yes hc (st_asg (v := .int (e + r.2.2)) (ev_add (ev_at hs h1 (ev_var p2) s0) rfl) (st_ifE ?_))
          refine ⟨_, rfl, _, p2, d, _, _, rfl, hs, _, rfl, .str r.2.1, rfl, _, rfl, _, _, r.2.1, rfl, hs, false, ?_, st_nil (S := specAt P k) (nx _ p0 p2)⟩
          rw [look_esV, h3]
          exact congrArg some (decide_eq_false (by omega))
      · rw [g1] at hc
        refine st_yes hc (st_asg (v := .int (e + r.2.2)) (ev_add (ev_at hs g1 (ev_var p2) s0) rfl) (st_ifE ?_))
        refine ⟨_, rfl, _, p2, d, _, _, rfl, hs, _, rfl, .str r.2.1, rfl, _, rfl, _, _, r.2.1, rfl, hs, true, ?_, ?_⟩
        · rw [look_esV]
          cases h3 : getE es' r.2.1 with
          | none => exact congrArg some (decide_eq_true (Int.lt_succ _))
          | some v => exact congrArg some (decide_eq_true (g4 v h3))
        · refine st_setS (p := d) (x := r.2.1) (v := .int (e + r.2.2)) rfl (ev_var p2) rfl hs (by unfold esV; rw [List.length_map]; omega) (st_nil (hn' _ _ ⟨?_, p0, p2⟩))
          rw [set_set, put_esV, List.foldl_cons, List.foldl_nil, g3]
    · rintro ρ'' σ' ⟨rfl, p0, p2⟩
      rw [List.length_map, List.take_length]
      exact st_nil (hn _ _ ⟨rfl, p0, p2⟩)
  · rintro ρ' σ' ⟨rfl, r0, r2⟩
    rw [rng_len (by omega)]
    refine st_ret (v := .ref d) r2 ?_
    have := q d hd
    exact this
end Mine

namespace Mine
open PySem

/-- the least minutes of a place, as the law counts them -/
noncomputable def distOf (roads : List Ride) (place : Str) : Es := rpasses roads (roads.length + 1) [(place, 0)]
theorem dist_same {roads : List Ride} {place : Str} {es : Es} (L : Least roads place es) (hp : ∀ r ∈ roads, 1 ≤ r.2.2) (x : Str) : getE (distOf roads place) x = getE es x := passes_same L hp x
noncomputable def canB (roads : List Ride) (t u : Trip) : Bool := (getE (distOf roads t.2.2.1) u.1).isSome && (match getE (distOf roads t.2.2.1) u.1 with | some d => decide (t.2.2.2 + d ≤ u.2.1) | none => false)
theorem canB_iff {roads : List Ride} {t u : Trip} : canB roads t u = true ↔ ∃ d, getE (distOf roads t.2.2.1) u.1 = some d ∧ t.2.2.2 + d ≤ u.2.1 := by
  unfold canB
  cases getE (distOf roads t.2.2.1) u.1 with
  | none => exact ⟨(fun h => nomatch h), (fun ⟨_, h, _⟩ => nomatch h)⟩
  | some d => exact ⟨fun h => ⟨d, rfl, of_decide_eq_true h⟩, fun ⟨d', h2, h3⟩ => by cases h2; exact decide_eq_true h3⟩
theorem least_any {roads : List Ride} (hp : ∀ r ∈ roads, 1 ≤ r.2.2) (hz : roads.length ≤ 1000) (x : Str) : ∃ es, Least roads x es := by
  obtain ⟨es, h, _⟩ := least_from_ok (place := x) hp (Nat.le_trans hz (by decide))
  exact ⟨es, h⟩
section
variable {roads : List Ride} (hp : ∀ r ∈ roads, 1 ≤ r.2.2)
include hp
/-- the triangle -/
theorem least_tri {a b : Str} {ea eb : Es} (La : Least roads a ea) (Lb : Least roads b eb) {u : Int} (hb : getE ea b = some u) : ∀ n x v, getE eb x = some v → v.toNat = n → ∃ w, getE ea x = some w ∧ w ≤ u + v := by
  intro n
  induction n using Nat.strongRecOn with
  | ind n ih =>
    intro x v hv hn
    by_cases hx : x = b
    · subst hx
      rw [Lb.inv.zero] at hv; cases hv
      exact ⟨u, hb, by omega⟩
    · obtain ⟨r, hr, g1, d, g2, g3⟩ := Lb.tight hv hx
      have k1 := hp r hr
      have k2 := Lb.inv.pos _ _ g2
      obtain ⟨w, w1, w2⟩ := ih d.toNat (by omega) _ d g2 rfl
      obtain ⟨d', e1, e2⟩ := relax_none (La.done r hr) w1
      exact ⟨d', by rw [← g1]; exact e1, by omega⟩
variable (hz : roads.length ≤ 1000)
include hz
theorem can_pos {t u : Trip} (h : canB roads t u = true) : t.2.2.2 ≤ u.2.1 := by
  obtain ⟨d, h1, h2⟩ := canB_iff.mp h
  obtain ⟨es, L⟩ := least_any hp hz t.2.2.1
  rw [dist_same L hp] at h1
  have := L.inv.pos _ _ h1
  omega
theorem can_trans {t u v : Trip} (hu : u.2.1 < u.2.2.2) (hr : u.1 = u.2.2.1 ∨ (u.1, u.2.2.1, u.2.2.2 - u.2.1) ∈ roads) (h : canB roads t u = true) (h' : canB roads u v = true) : canB roads t v = true := by
  obtain ⟨d, h1, h2⟩ := canB_iff.mp h
  obtain ⟨e, h3, h4⟩ := canB_iff.mp h'
  obtain ⟨et, Lt⟩ := least_any hp hz t.2.2.1
  obtain ⟨eu, Lu⟩ := least_any hp hz u.2.2.1
  rw [dist_same Lt hp] at h1
  rw [dist_same Lu hp] at h3
  have hx : ∃ x, getE et u.2.2.1 = some x ∧ x ≤ d + (u.2.2.2 - u.2.1) := by
    rcases hr with hr | hr
    · rw [← hr]; exact ⟨d, h1, by omega⟩
    · exact relax_none (Lt.done _ hr) h1
  obtain ⟨x, x1, x2⟩ := hx
  obtain ⟨w, w1, w2⟩ := least_tri hp Lt Lu x1 _ _ _ h3 rfl
  refine canB_iff.mpr ⟨w, ?_, by omega⟩
  rw [dist_same Lt hp]; exact w1
end

theorem can_ev {roads : List Ride} {ρ : Loc} {σ : Store} {t u : Trip} {d : Addr} {m : Bool} {es : Es} (hs : σ d = some (.ds m (esV es))) (he : ∀ x, getE es x = getE (distOf roads t.2.2.1) x) (r1 : ρ 1 = some (tripV t)) (r2 : ρ 2 = some (tripV u)) (r3 : ρ 3 = some (.ref d)) :
    evP ρ σ (.and (.cmp .isin (.sub (.var 2) (.cst (.int 0))) (.var 3)) (.cmp .le (.bin .add (.sub (.var 1) (.cst (.int 3))) (.sub (.var 3) (.sub (.var 2) (.cst (.int 0))))) (.sub (.var 2) (.cst (.int 1))))) = some (.bool (canB roads t u)) := by
  have s0 := ev_sub (ρ := ρ) (σ := σ) (b := .cst (.int 0)) (v := .str u.1) (ev_var r2) rfl rfl
  unfold canB
  rw [← he]
  refine ev_and (ev_in hs s0 (ev_var r3)) fun h => ?_
  cases hg : getE es u.1 with
  | none => rw [hg] at h; cases h
  | some d' => exact ev_leI (ev_add (ev_sub (ev_var r1) rfl rfl) (ev_at hs hg (ev_var r3) s0)) (ev_sub (ev_var r2) rfl rfl)
theorem law_can_ok {k : Nat} {roads : List Ride} {t u : Trip} (hp : ∀ r ∈ roads, 1 ≤ r.2.2) (hz : roads.length ≤ 1000) {σ : Store} {a : Addr} {m : Bool} {Q : Post} (ha : σ a = some (.list m (roads.map rideV))) (q : ∀ σ', Ext σ σ' → Q (.bool (canB roads t u)) σ') : specAt P (k + 2) 30 [.ref a, tripV t, tripV u] σ Q := by
  obtain ⟨es, L⟩ := least_any hp hz t.2.2.1
  refine spec_of (xs := f_law_can) rfl rfl (st_asgE (wp_call (vs := [.ref a, .str t.2.2.1]) rfl (law_least_ok L hp hz ha fun d hd => ?_)))
  exact st_ret (can_ev (es := distOf roads t.2.2.1) set_self (fun x => rfl) rfl rfl rfl) (q _ (Ext.new hd))
end Mine

namespace Mine
open PySem

/-! matching, in plain words: a list of pairs (right, left) -/
abbrev Mt := List (Nat × Nat)
noncomputable def getM (M : Mt) (j : Nat) : Option Nat := (M.find? fun p => p.1 = j).map (·.2)
noncomputable def putM (M : Mt) (j i : Nat) : Mt := if M.any (fun p => p.1 = j) then M.map (fun p => if p.1 = j then (p.1, i) else p) else M ++ [(j, i)]
theorem getM_cons {p : Nat × Nat} {M : Mt} {j : Nat} : getM (p :: M) j = if p.1 = j then some p.2 else getM M j := by
  unfold getM
  rw [List.find?_cons]
  by_cases h : p.1 = j
  · rw [if_pos h, decide_eq_true h]; rfl
  · rw [if_neg h, decide_eq_false h]
theorem getM_none {M : Mt} {j : Nat} : getM M j = none ↔ j ∉ M.map (·.1) := by
  induction M with
  | nil => exact ⟨(fun _ h => nomatch h), fun _ => rfl⟩
  | cons p M ih =>
    rw [getM_cons, List.map_cons, List.mem_cons]
    by_cases h : p.1 = j
    · rw [if_pos h]; exact ⟨(fun h => nomatch h), fun z => absurd (Or.inl h.symm) z⟩
    · rw [if_neg h, ih]; exact ⟨fun z w => w.elim (fun w => h w.symm) z, fun z w => z (.inr w)⟩
theorem getM_mem {M : Mt} {j i : Nat} (h : getM M j = some i) : (j, i) ∈ M := by
  induction M with
  | nil => cases h
  | cons p M ih =>
    rw [getM_cons] at h
    by_cases hp : p.1 = j
    · rw [if_pos hp] at h; cases h; rw [← hp]; exact .head _
    · rw [if_neg hp] at h; exact .tail _ (ih h)
theorem getM_of {M : Mt} (hn : (M.map (·.1)).Nodup) {p : Nat × Nat} (h : p ∈ M) : getM M p.1 = some p.2 := by
  induction M with
  | nil => cases h
  | cons q M ih =>
    rw [List.map_cons, List.nodup_cons] at hn
    rw [getM_cons]
    cases h with
    | head => exact if_pos rfl
    | tail _ h =>
      rw [if_neg fun e => hn.1 (by rw [e]; exact List.mem_map.mpr ⟨p, h, rfl⟩)]
      exact ih hn.2 h
theorem get_putM (M : Mt) (j i k : Nat) : getM (putM M j i) k = if k = j then some i else getM M k := by
  unfold putM
  split
  · rename_i h
    induction M with
    | nil => cases h
    | cons p M ih =>
      rw [List.map_cons, getM_cons, getM_cons]
      by_cases hp : p.1 = j
      · rw [if_pos hp]
        by_cases hk : k = j
        · rw [if_pos hk, if_pos (by rw [hp, hk])]
        · rw [if_neg hk, if_neg (by rw [hp]; exact fun e => hk e.symm), if_neg (by rw [hp]; exact fun e => hk e.symm)]
          by_cases h2 : (M.any fun p => p.1 = j) = true
          · rw [ih h2, if_neg hk]
          · have : M.map (fun p => if p.1 = j then (p.1, i) else p) = M := by
              conv => rhs; rw [← List.map_id M]
              refine List.map_congr_left fun q hq => ?_
              rw [if_neg fun e => h2 (List.any_eq_true.mpr ⟨q, hq, decide_eq_true e⟩)]; rfl
            rw [this]
      · rw [if_neg hp]
        have h2 : (M.any fun p => p.1 = j) = true := by
          rw [List.any_cons, decide_eq_false hp] at h; exact h
        rw [ih h2]
        by_cases hk : p.1 = k
        · rw [if_pos hk, if_pos hk, if_neg fun e => hp (hk.trans e)]
        · rw [if_neg hk, if_neg hk]
  · rename_i h
    have h0 : getM M j = none := getM_none.mpr fun hm => h (by
      obtain ⟨p, hp, e⟩ := List.mem_map.mp hm
      exact List.any_eq_true.mpr ⟨p, hp, decide_eq_true e⟩)
    have : ∀ {M : Mt}, getM (M ++ [(j, i)]) k = match getM M k with | some x => some x | none => if k = j then some i else none := by
      intro M
      induction M with
      | nil => show getM [(j, i)] k = _; rw [getM_cons]; show (if j = k then some i else getM [] k) = if k = j then some i else none; by_cases hk : k = j
               · rw [if_pos hk, if_pos hk.symm]
               · rw [if_neg hk, if_neg fun e => hk e.symm]; rfl
      | cons p M ih =>
        rw [List.cons_append, getM_cons, getM_cons]
        by_cases hp : p.1 = k
        · rw [if_pos hp, if_pos hp]
        · rw [if_neg hp, if_neg hp, ih]
    rw [this]
    by_cases hk : k = j
    · subst hk; rw [h0]
    · cases hg : getM M k with
      | none => rfl
      | some x => show some x = if k = j then some i else some x; rw [if_neg hk]
theorem keys_putM {M : Mt} {j i : Nat} (h : (M.map (·.1)).Nodup) : ((putM M j i).map (·.1)).Nodup := by
  unfold putM
  split
  · rw [List.map_map]
    have : (M.map ((fun p : Nat × Nat => p.1) ∘ fun p => if p.1 = j then (p.1, i) else p)) = M.map (·.1) := List.map_congr_left fun p _ => by
      show (if p.1 = j then (p.1, i) else p).1 = p.1
      split <;> rfl
    rw [this]; exact h
  · rename_i h'
    rw [List.map_append, List.nodup_append]
    refine ⟨h, List.nodup_cons.mpr ⟨(fun h => nomatch h), List.nodup_nil⟩, fun a ha b hb => ?_⟩
    cases hb with
    | head =>
      rintro rfl
      obtain ⟨p, hp, e⟩ := List.mem_map.mp ha
      exact h' (List.any_eq_true.mpr ⟨p, hp, decide_eq_true e⟩)
    | tail _ h => cases h
section
variable (n : Nat) (nb : Nat → List Nat)
structure Mat (M : Mt) : Prop where
  keys : (M.map (·.1)).Nodup
  edge : ∀ j i, getM M j = some i → j ∈ nb i ∧ i < n
  uniq : ∀ j j' i, getM M j = some i → getM M j' = some i → j = j'
noncomputable def OnL (M : Mt) (i : Nat) : Prop := ∃ j, getM M j = some i
structure Closed (M : Mt) (L S : Nat → Prop) : Prop where
  go : ∀ i, L i → ∀ j ∈ nb i, S j
  back : ∀ s, S s → ∃ i, L i ∧ getM M s = some i
structure Seen (X X' : List Nat) : Prop where
  sub : ∀ x ∈ X, x ∈ X'
  nd : X'.Nodup
  lt : ∀ x ∈ X', x < n
structure Fail (one : Nat) (M : Mt) (X X' : List Nat) : Prop where
  seen : Seen n X X'
  all : ∀ j ∈ nb one, j ∈ X'
  new : ∀ j ∈ X', j ∉ X → ∃ i, getM M j = some i ∧ ∀ k ∈ nb i, k ∈ X'
structure Succ (one : Nat) (M M' : Mt) (X X' : List Nat) : Prop where
  seen : Seen n X X'
  keys : (M'.map (·.1)).Nodup
  edge : ∀ j i, getM M' j = some i → j ∈ nb i ∧ i < n
  kept : ∀ j ∈ X, getM M' j = getM M j
  at_ : ∃ j', j' ∉ X ∧ getM M' j' = some one ∧ ∀ j, getM M' j = some one → j = j' ∨ getM M j = some one
  uniq : ∀ j j' i, i ≠ one → getM M' j = some i → getM M' j' = some i → j = j'
  left : ∀ i, OnL M' i ↔ OnL M i ∨ i = one
  grow : ∀ j, getM M j ≠ none → getM M' j ≠ none
  closed : ∀ L S, Closed nb M L S → ¬ L one ∧ ∀ s, S s → getM M' s = getM M s
variable {n nb}
theorem succ_free {one other : Nat} {M : Mt} {X X' : List Nat} (hM : Mat n nb M) (hs : Seen n X X') (h1 : one < n) (ho : other ∈ nb one) (hx : other ∉ X) (hX : ∀ j, getM M j = some one → j ∈ X) (hf : getM M other = none) : Succ n nb one M (putM M other one) X X' := by
  refine ⟨hs, keys_putM hM.keys, fun j i h => ?_, fun j hj => ?_, ⟨other, hx, by rw [get_putM, if_pos rfl], fun j h => ?_⟩, fun j j' i hi h h' => ?_, fun i => ⟨fun ⟨j, h⟩ => ?_, fun h => ?_⟩, fun j h => ?_, fun L S hc => ?_⟩
  · rw [get_putM] at h
    by_cases hj : j = other
    · rw [if_pos hj] at h; cases h; rw [hj]; exact ⟨ho, h1⟩
    · rw [if_neg hj] at h; exact hM.edge j i h
  · rw [get_putM, if_neg]; rintro rfl; exact hx hj
  · rw [get_putM] at h
    by_cases hj : j = other
    · exact .inl hj
    · rw [if_neg hj] at h; exact .inr h
  · rw [get_putM] at h h'
    by_cases hj : j = other
    · rw [if_pos hj] at h; cases h; exact absurd rfl hi
    · by_cases hj' : j' = other
      · rw [if_pos hj'] at h'; cases h'; exact absurd rfl hi
      · rw [if_neg hj] at h; rw [if_neg hj'] at h'; exact hM.uniq j j' i h h'
  · rw [get_putM] at h
    by_cases hj : j = other
    · rw [if_pos hj] at h; cases h; exact .inr rfl
    · rw [if_neg hj] at h; exact .inl ⟨j, h⟩
  · rcases h with ⟨j, h⟩ | rfl
    · exact ⟨j, by rw [get_putM, if_neg]; exact h; rintro rfl; rw [hf] at h; cases h⟩
    · exact ⟨other, by rw [get_putM, if_pos rfl]⟩
  · rw [get_putM]; split
    · exact fun z => nomatch z
    · exact h
  · have hno : ¬ S other := fun z => by obtain ⟨i, _, h⟩ := hc.back _ z; rw [hf] at h; cases h
    refine ⟨fun z => hno (hc.go _ z _ ho), fun s hS => ?_⟩
    rw [get_putM, if_neg]; rintro rfl; exact hno hS
theorem succ_step {one other i' : Nat} {M M₁ : Mt} {X X₁ X' : List Nat} (hM : Mat n nb M) (h1 : one < n) (ho : other ∈ nb one) (hx : other ∉ X) (hX : ∀ j, getM M j = some one → j ∈ X) (hf : getM M other = some i') (hX₁ : ∀ x, x ∈ X₁ ↔ x ∈ X ∨ x = other) (R : Succ n nb i' M M₁ X₁ X') : Succ n nb one M (putM M₁ other one) X X' := by
  have hne : one ≠ i' := by rintro rfl; exact hx (hX _ hf)
  have k1 : getM M₁ other = some i' := by rw [R.kept other ((hX₁ _).mpr (.inr rfl)), hf]
  have own : ∀ j, getM M₁ j = some one → getM M j = some one := fun j h => by
    rcases (R.left one).mp ⟨j, h⟩ with ⟨j0, h0⟩ | h0
    · have : getM M₁ j0 = some one := by rw [R.kept j0 ((hX₁ _).mpr (.inl (hX _ h0)))]; exact h0
      rw [R.uniq j j0 one hne h this]; exact h0
    · exact absurd h0 hne
  obtain ⟨jn, a1, a2, a3⟩ := R.at_
  have jne : jn ≠ other := fun e => a1 ((hX₁ _).mpr (.inr e))
  refine ⟨⟨fun x h => R.seen.sub x ((hX₁ _).mpr (.inl h)), R.seen.nd, R.seen.lt⟩, keys_putM R.keys, fun j i h => ?_, fun j hj => ?_, ⟨other, hx, by rw [get_putM, if_pos rfl], fun j h => ?_⟩, fun j j' i hi h h' => ?_, fun i => ⟨fun ⟨j, h⟩ => ?_, fun h => ?_⟩, fun j h => ?_, fun L S hc => ?_⟩
  · rw [get_putM] at h
    by_cases hj : j = other
    · rw [if_pos hj] at h; cases h; rw [hj]; exact ⟨ho, h1⟩
    · rw [if_neg hj] at h; exact R.edge j i h
  · rw [get_putM, if_neg (by rintro rfl; exact hx hj)]; exact R.kept j ((hX₁ _).mpr (.inl hj))
  · rw [get_putM] at h
    by_cases hj : j = other
    · exact .inl hj
    · rw [if_neg hj] at h; exact .inr (own j h)
  · rw [get_putM] at h h'
    by_cases hj : j = other
    · rw [if_pos hj] at h; cases h; exact absurd rfl hi
    · by_cases hj' : j' = other
      · rw [if_pos hj'] at h'; cases h'; exact absurd rfl hi
      · rw [if_neg hj] at h; rw [if_neg hj'] at h'
        by_cases hii : i = i'
        · subst hii
          have e : ∀ j, j ≠ other → getM M₁ j = some i → j = jn := fun j hj h => by
            rcases a3 j h with e | e
            · exact e
            · exact absurd (hM.uniq _ _ _ e hf) hj
          rw [e j hj h, e j' hj' h']
        · exact R.uniq j j' i hii h h'
  · rw [get_putM] at h
    by_cases hj : j = other
    · rw [if_pos hj] at h; cases h; exact .inr rfl
    · rw [if_neg hj] at h
      rcases (R.left i).mp ⟨j, h⟩ with h | h
      · exact .inl h
      · exact .inl (h ▸ ⟨other, hf⟩)
  · rcases h with h | rfl
    · obtain ⟨j, hj⟩ := (R.left i).mpr (.inl h)
      by_cases hjo : j = other
      · rw [hjo, k1] at hj; cases hj
        exact ⟨jn, by rw [get_putM, if_neg jne]; exact a2⟩
      · exact ⟨j, by rw [get_putM, if_neg hjo]; exact hj⟩
    · exact ⟨other, by rw [get_putM, if_pos rfl]⟩
  · rw [get_putM]; split
    · exact fun z => nomatch z
    · exact R.grow j h
  · obtain ⟨c1, c2⟩ := R.closed L S hc
    have hno : ¬ S other := fun z => by obtain ⟨i, hi, h⟩ := hc.back _ z; rw [hf] at h; cases h; exact c1 hi
    refine ⟨fun z => hno (hc.go _ z _ ho), fun s hS => ?_⟩
    rw [get_putM, if_neg (by rintro rfl; exact hno hS)]; exact c2 s hS
/-- after so many turns -/
structure Pair (t : Nat) (M : Mt) : Prop where
  mat : Mat n nb M
  low : ∀ i, OnL M i → i < t
  cut : ∃ L S, Closed nb M L S ∧ ∀ i, i < t → ¬ OnL M i → L i
theorem pair_zero : Pair (n := n) (nb := nb) 0 [] :=
  ⟨⟨List.nodup_nil, (fun _ _ h => nomatch h), (fun _ _ _ h => nomatch h)⟩, (fun _ ⟨_, h⟩ => nomatch h), fun _ => False, fun _ => False, ⟨fun _ h => h.elim, fun _ h => h.elim⟩, fun _ h => absurd h (Nat.not_lt_zero _)⟩
theorem pair_fail {t : Nat} {M : Mt} {X' : List Nat} (P : Pair (n := n) (nb := nb) t M) (F : Fail n nb t M [] X') : Pair (n := n) (nb := nb) (t + 1) M := by
  obtain ⟨L, S, C, hL⟩ := P.cut
  refine ⟨P.mat, fun i h => Nat.lt_succ_of_lt (P.low i h), fun i => L i ∨ i = t ∨ ∃ s ∈ X', getM M s = some i, fun s => S s ∨ s ∈ X', ⟨fun i hi j hj => ?_, fun s hs => ?_⟩, fun i hi hn => ?_⟩
  · rcases hi with hi | rfl | ⟨s, hs, e⟩
    · exact .inl (C.go i hi j hj)
    · exact .inr (F.all j hj)
    · obtain ⟨i', e', h⟩ := F.new s hs (fun h => nomatch h)
      rw [e] at e'; cases e'
      exact .inr (h j hj)
  · rcases hs with hs | hs
    · obtain ⟨i, h1, h2⟩ := C.back s hs; exact ⟨i, .inl h1, h2⟩
    · obtain ⟨i, e, _⟩ := F.new s hs (fun h => nomatch h)
      exact ⟨i, .inr (.inr ⟨s, hs, e⟩), e⟩
  · rcases Nat.lt_succ_iff_lt_or_eq.mp hi with h | h
    · exact .inl (hL i h hn)
    · exact .inr (.inl h)
theorem pair_succ {t : Nat} {M M' : Mt} {X' : List Nat} (P : Pair (n := n) (nb := nb) t M) (R : Succ n nb t M M' [] X') : Pair (n := n) (nb := nb) (t + 1) M' := by
  obtain ⟨L, S, C, hL⟩ := P.cut
  have hno : ∀ j, getM M j ≠ some t := fun j h => absurd (P.low t ⟨j, h⟩) (Nat.lt_irrefl _)
  obtain ⟨j', _, a2, a3⟩ := R.at_
  have one : ∀ j, getM M' j = some t → j = j' := fun j h => (a3 j h).resolve_right (hno j)
  refine ⟨⟨R.keys, R.edge, fun j k i h h' => ?_⟩, fun i h => ?_, L, S, ⟨C.go, fun s hs => ?_⟩, fun i hi hn => ?_⟩
  · by_cases hi : i = t
    · subst hi; rw [one j h, one k h']
    · exact R.uniq j k i hi h h'
  · rcases (R.left i).mp h with h | h
    · exact Nat.lt_succ_of_lt (P.low i h)
    · rw [h]; exact Nat.lt_succ_self _
  · obtain ⟨i, h1, h2⟩ := C.back s hs
    exact ⟨i, h1, by rw [(R.closed L S C).2 s hs]; exact h2⟩
  · have h' : ¬ OnL M i ∧ i ≠ t := ⟨fun h => hn ((R.left i).mpr (.inl h)), fun h => hn ((R.left i).mpr (.inr h))⟩
    exact hL i (Nat.lt_of_le_of_ne (Nat.le_of_lt_succ hi) h'.2) h'.1
end
end Mine

namespace Mine
open PySem

noncomputable def mV (M : Mt) : List (Int × V) := M.map fun p => ((p.1 : Int), V.int p.2)
noncomputable def sV (X : List Nat) : List (Int × V) := X.map fun (j : Nat) => ((j : Int), V.bool true)
theorem cast_eq {a b : Nat} : ((a : Int) = b) ↔ a = b := Int.ofNat_inj
theorem look_mV (M : Mt) (j : Nat) : look (mV M) (j : Int) = (getM M j).map fun i => V.int i := by
  unfold look mV
  induction M with
  | nil => rfl
  | cons p M ih =>
    rw [List.map_cons, List.find?_cons, getM_cons]
    by_cases h : p.1 = j
    · rw [if_pos h, decide_eq_true (cast_eq.mpr h)]; rfl
    · rw [if_neg h, decide_eq_false fun z => h (cast_eq.mp z)]; exact ih
theorem any_mV {M : Mt} {j : Nat} : ((mV M).any fun e => e.1 = (j : Int)) = M.any fun p => p.1 = j := by
  unfold mV
  rw [List.any_map]
  refine congrArg (M.any ·) (funext fun p => ?_)
  show decide ((p.1 : Int) = j) = decide (p.1 = j)
  by_cases h : p.1 = j
  · rw [decide_eq_true h, decide_eq_true (cast_eq.mpr h)]
  · rw [decide_eq_false h, decide_eq_false fun z => h (cast_eq.mp z)]
theorem put_mV (M : Mt) (j i : Nat) : put (mV M) (j : Int) (.int i) = mV (putM M j i) := by
  unfold put putM
  rw [any_mV]
  split
  · unfold mV
    rw [List.map_map, List.map_map]
    refine List.map_congr_left fun p _ => ?_
    show (if (p.1 : Int) = j then ((p.1 : Int), V.int i) else ((p.1 : Int), V.int p.2)) = (((if p.1 = j then (p.1, i) else p).1 : Int), V.int (if p.1 = j then (p.1, i) else p).2)
    by_cases h : p.1 = j
    · rw [if_pos h, if_pos (cast_eq.mpr h)]
    · rw [if_neg h, if_neg fun z => h (cast_eq.mp z)]
  · unfold mV; rw [List.map_append]; rfl
theorem look_sV (X : List Nat) (j : Nat) : (look (sV X) (j : Int)).isSome = decide (j ∈ X) := by
  unfold look sV
  induction X with
  | nil => rfl
  | cons p X ih =>
    rw [List.map_cons, List.find?_cons]
    by_cases h : p = j
    · rw [decide_eq_true (cast_eq.mpr h), decide_eq_true (h ▸ .head _)]; rfl
    · rw [decide_eq_false fun z => h (cast_eq.mp z)]
      show ((List.find? _ _).map _).isSome = _
      rw [ih]
      by_cases hx : j ∈ X
      · rw [decide_eq_true hx, decide_eq_true (.tail _ hx)]
      · rw [decide_eq_false hx, decide_eq_false fun z => by cases z with | head => exact h rfl | tail _ z => exact hx z]
theorem put_sV {X : List Nat} {j : Nat} (h : j ∉ X) : put (sV X) (j : Int) (.bool true) = sV (X ++ [j]) := by
  unfold put
  have : ((sV X).any fun e => e.1 = (j : Int)) = false := by
    rw [List.any_eq_false]
    intro e he
    obtain ⟨x, hx, rfl⟩ := List.mem_map.mp he
    exact fun z => h (by rw [← cast_eq.mp (of_decide_eq_true z)]; exact hx)
  rw [this]
  show (if false = true then _ else _) = _
  rw [if_neg (by decide)]
  unfold sV; rw [List.map_append]; rfl
theorem put_sV' {X : List Nat} {j : Nat} (h : j ∈ X) : put (sV X) (j : Int) (.bool true) = sV X := by
  unfold put
  have : ((sV X).any fun e => e.1 = (j : Int)) = true := List.any_eq_true.mpr ⟨_, List.mem_map.mpr ⟨j, h, rfl⟩, decide_eq_true rfl⟩
  rw [this, if_pos rfl]
  unfold sV
  rw [List.map_map]
  refine List.map_congr_left fun x _ => ?_
  show (if (x : Int) = j then ((x : Int), V.bool true) else ((x : Int), V.bool true)) = _
  split <;> rfl
section
variable {ρ : Loc} {σ : Store} {a b : X} {d : Addr} {m : Bool} {es : List (Int × V)} {j : Int}
theorem in_di (h : σ d = some (.di m es)) : inV σ (.int j) (.ref d) = some (look es j).isSome := by
  show (match σ d with | some (.list _ l) => inL σ (.int j) l | some (.ds _ es) => none | some (.di _ es) => some (look es j).isSome | _ => none) = _
  rw [h]
theorem ev_inI (h : σ d = some (.di m es)) (ha : evP ρ σ a = some (.int j)) (hb : evP ρ σ b = some (.ref d)) : evP ρ σ (.cmp .isin a b) = some (.bool (look es j).isSome) := ev_cmp ha hb (in_di h)
theorem ev_ninI (h : σ d = some (.di m es)) (ha : evP ρ σ a = some (.int j)) (hb : evP ρ σ b = some (.ref d)) : evP ρ σ (.cmp .notin a b) = some (.bool !(look es j).isSome) := ev_cmp ha hb (show (inV σ _ _).map _ = _ by rw [in_di h]; rfl)
theorem ev_subD {v : V} (h : σ d = some (.di m es)) (hl : look es j = some v) (ha : evP ρ σ a = some (.ref d)) (hb : evP ρ σ b = some (.int j)) : evP ρ σ (.sub a b) = some v := ev_sub ha hb (by
  show (match σ d, V.int j with | some (.list _ l), .int i => idxL l i | some (.ds _ es), .str k => look es k | some (.di _ es), .int k => look es k | _, _ => Option.none) = _
  rw [h]; exact hl)
end
theorem st_setD {S : Spec} {ρ : Loc} {σ : Store} {Q : FPost} {r : List Mine.S} {o i e : X} {p : Addr} {es : List (Int × V)} {x : Int} {v : V} (he : evP ρ σ e = some v) (ho : evP ρ σ o = some (.ref p)) (hi : evP ρ σ i = some (.int x)) (hp : σ p = some (.di true es)) (hz : es.length ≤ 1000000) (h : wpSs S r ρ (σ.set p (.di true (put es x v))) Q) : wpSs S (.setItem o i e :: r) ρ σ Q := by
  refine evP_ok (e := e) he (evP_ok (e := o) ho (evP_ok (e := i) hi ?_))
  unfold setV
  refine ⟨p, rfl, ?_⟩
  rw [hp]
  exact ⟨hz, h⟩
/-- who may come behind, as it stands in the store -/
structure Bh (σ : Store) (db : Addr) (ps : List Addr) (nbl : List (List Nat)) : Prop where
  at_ : ∃ m, σ db = some (.list m (ps.map .ref))
  len : ps.length = nbl.length
  row : ∀ (i : Nat) p b, ps[i]? = some p → nbl[i]? = some b → ∃ m, σ p = some (.list m (b.map fun (j : Nat) => V.int j))
noncomputable def nbOf (nbl : List (List Nat)) (i : Nat) : List Nat := nbl[i]?.getD []
noncomputable def KeepL (σ σ' : Store) : Prop := ∀ a m l, σ a = some (.list m l) → σ' a = some (.list m l)
theorem KeepL.refl {σ : Store} : KeepL σ σ := fun _ _ _ h => h
theorem KeepL.trans {σ σ' σ'' : Store} (h : KeepL σ σ') (h' : KeepL σ' σ'') : KeepL σ σ'' := fun a m l e => h' a m l (h a m l e)
theorem KeepL.set {σ : Store} {d : Addr} {o : O} (h : ∀ m l, σ d ≠ some (.list m l)) : KeepL σ (σ.set d o) := fun a m l e => by
  rw [set_ne]; exact e
  rintro rfl; exact h m l e
theorem Ext.keepL {σ σ' : Store} (h : Ext σ σ') : KeepL σ σ' := fun a m l e => h a _ e
theorem Bh.keep {σ σ' : Store} {db : Addr} {ps : List Addr} {nbl : List (List Nat)} (B : Bh σ db ps nbl) (h : KeepL σ σ') : Bh σ' db ps nbl :=
  ⟨let ⟨m, e⟩ := B.at_; ⟨m, h _ _ _ e⟩, B.len, fun i p b h1 h2 => let ⟨m, e⟩ := B.row i p b h1 h2; ⟨m, h _ _ _ e⟩⟩
noncomputable def ST (σ : Store) (ds da : Addr) (X : List Nat) (M : Mt) : Store := (σ.set ds (.di true (sV X))).set da (.di true (mV M))
section
variable {σ : Store} {ds da : Addr} {X X' : List Nat} {M M' : Mt}
theorem ST_a : (ST σ ds da X M) da = some (.di true (mV M)) := set_self
theorem ST_s (h : ds ≠ da) : (ST σ ds da X M) ds = some (.di true (sV X)) := by unfold ST; rw [set_ne h]; exact set_self
theorem ST_ss (h : ds ≠ da) : (ST σ ds da X M).set ds (.di true (sV X')) = ST σ ds da X' M := by
  funext b
  unfold ST Store.set
  show (if b = ds then _ else if b = da then _ else if b = ds then _ else _) = if b = da then _ else if b = ds then _ else _
  by_cases h1 : b = ds
  · rw [if_pos h1, if_neg (by rw [h1]; exact h), if_pos h1]
  · rw [if_neg h1, if_neg h1, if_neg h1]
theorem ST_sa : (ST σ ds da X M).set da (.di true (mV M')) = ST σ ds da X M' := set_set
end

theorem Succ.weaken {n : Nat} {nb : Nat → List Nat} {one : Nat} {M M' : Mt} {X Y X' : List Nat} (R : Succ n nb one M M' Y X') (h : ∀ x ∈ X, x ∈ Y) : Succ n nb one M M' X X' :=
  ⟨⟨fun x hx => R.seen.sub x (h x hx), R.seen.nd, R.seen.lt⟩, R.keys, R.edge, fun j hj => R.kept j (h j hj), let ⟨j', a, b, c⟩ := R.at_; ⟨j', fun z => a (h _ z), b, c⟩, R.uniq, R.left, R.grow, R.closed⟩
theorem is_placed_ok {nbl : List (List Nat)} {db : Addr} {ps : List Addr} {σ : Store} {ds da : Addr} (hz : nbl.length ≤ 1000) (hne : ds ≠ da) (hB : ∀ X M, Bh (ST σ ds da X M) db ps nbl) (hlt : ∀ i, ∀ j ∈ nbOf nbl i, j < nbl.length) : ∀ (c one : Nat) (M : Mt) (X : List Nat) (Q : Post), nbl.length - X.length ≤ c → Mat nbl.length (nbOf nbl) M → M.length ≤ 1000 →
    Seen nbl.length X X → one < nbl.length → (∀ j, getM M j = some one → j ∈ X) → (∀ X', Fail nbl.length (nbOf nbl) one M X X' → Q (.bool false) (ST σ ds da X' M)) → (∀ M' X', Succ nbl.length (nbOf nbl) one M M' X X' → Q (.bool true) (ST σ ds da X' M')) →
    specAt P (c + 1) 37 [.int one, .ref db, .ref da, .ref ds] (ST σ ds da X M) Q := by
  have szX : ∀ {X X' : List Nat}, Seen nbl.length X X' → (sV X').length ≤ 1000000 := fun hs => by
    unfold sV; rw [List.length_map]
    have := nodup_len hs.nd (m := List.range nbl.length) fun x hx => List.mem_range.mpr (hs.lt x hx)
    rw [List.length_range] at this; omega
  have szM : ∀ {M : Mt}, (M.map (·.1)).Nodup → (∀ j i, getM M j = some i → j ∈ nbOf nbl i ∧ i < nbl.length) → (mV M).length ≤ 1000000 := fun {M} h1 h2 => by
    unfold mV; rw [List.length_map]
    have := nodup_len h1 (m := List.range nbl.length) fun x hx => by
      obtain ⟨p, hp, rfl⟩ := List.mem_map.mp hx
      exact List.mem_range.mpr (hlt _ _ (h2 _ _ (getM_of h1 hp)).1)
    rw [List.length_range, List.length_map] at this; omega
  intro c
  induction c with
  | zero =>
    intro one M X Q hc hM hMl hS h1 hX qF qT
    -- all is seen
    have all : ∀ j, j < nbl.length → j ∈ X := fun j hj => by
      refine Classical.byContradiction fun hn => ?_
      have := nodup_len (l := j :: X) (m := List.range nbl.length) (List.nodup_cons.mpr ⟨hn, hS.nd⟩) fun x hx => by
        cases hx with
        | head => exact List.mem_range.mpr hj
        | tail _ hx => exact List.mem_range.mpr (hS.lt x hx)
      rw [List.length_range, List.length_cons] at this; omega
    obtain ⟨m, hb⟩ := (hB X M).at_
    obtain ⟨p, hp⟩ : ∃ p, ps[one]? = some p := ⟨_, List.getElem?_eq_getElem (by rw [(hB X M).len]; exact h1)⟩
    obtain ⟨m', hrow⟩ := (hB X M).row one p (nbOf nbl one) hp (by unfold nbOf; rw [List.getElem?_eq_getElem h1]; rfl)
    refine spec_of (xs := f_is_placed) rfl rfl ?_
    refine st_forL (p := p) (ev_list hb (Int.natCast_nonneg one) (by rw [Int.toNat_natCast, List.getElem?_map, hp]; rfl) rfl rfl) hrow (forW_of (fun k ρ' σ' => σ' = ST σ ds da X M ∧ ρ' 3 = some (.ref ds)) (fun _ _ _ _ h => by rw [h.1]; exact ⟨_, hrow⟩) ?_ ?_ ⟨rfl, rfl⟩)
    · rintro k v ρ' σ₁ K hv ⟨rfl, r3⟩ hn hx
      rw [List.getElem?_map] at hv
      obtain ⟨other, ho, rfl⟩ := Option.map_eq_some_iff.mp hv
      have hin := all other (hlt one other (List.mem_of_getElem? ho))
      refine ⟨_, rfl, st_no (c := .cmp .notin (.var 4) (.var 3)) ?_ (st_nil (hn _ _ ⟨rfl, r3⟩))⟩
      have := ev_ninI (ρ := ρ'.set 4 (.int other)) (a := .var 4) (b := .var 3) (ST_s (σ := σ) (X := X) (M := M) hne) rfl (ev_var r3)
      rw [look_sV, decide_eq_true hin] at this; exact this
    · rintro ρ' σ₁ ⟨rfl, r3⟩
      exact st_ret rfl (qF X ⟨hS, fun j hj => all j (hlt _ _ hj), fun j hj hn => absurd hj hn⟩)
  | succ c ih =>
    intro one M X Q hc hM hMl hS h1 hX qF qT
    obtain ⟨m, hb⟩ := (hB X M).at_
    obtain ⟨p, hp⟩ : ∃ p, ps[one]? = some p := ⟨_, List.getElem?_eq_getElem (by rw [(hB X M).len]; exact h1)⟩
    have hnb : nbl[one]? = some (nbOf nbl one) := by unfold nbOf; rw [List.getElem?_eq_getElem h1]; rfl
    obtain ⟨m', hrow⟩ := (hB X M).row one p (nbOf nbl one) hp hnb
    refine spec_of (xs := f_is_placed) rfl rfl ?_
    refine st_forL (p := p) (ev_list hb (Int.natCast_nonneg one) (by rw [Int.toNat_natCast, List.getElem?_map, hp]; rfl) rfl rfl) hrow (forW_of (fun k ρ' σ' => ∃ Xk, σ' = ST σ ds da Xk M ∧ Seen nbl.length X Xk ∧ (∀ j ∈ (nbOf nbl one).take k, j ∈ Xk) ∧ (∀ j ∈ Xk, j ∉ X → ∃ i, getM M j = some i ∧ ∀ k ∈ nbOf nbl i, k ∈ Xk) ∧ ρ' 0 = some (.int one) ∧ ρ' 1 = some (.ref db) ∧ ρ' 2 = some (.ref da) ∧ ρ' 3 = some (.ref ds)) ?_ ?_ ?_ ⟨X, rfl, hS, (fun j h => nomatch h), fun j h h' => absurd h h', rfl, rfl, rfl, rfl⟩)
    · rintro k ρ' σ' _ ⟨Xk, rfl, _⟩
      obtain ⟨m'', h⟩ := (hB Xk M).row one p (nbOf nbl one) hp hnb
      exact ⟨m'', h⟩
    · rintro k v ρ' σ₁ K hv ⟨Xk, rfl, hSk, hdone, hnew, r0, r1, r2, r3⟩ hn hx
      rw [List.getElem?_map] at hv
      obtain ⟨other, ho, rfl⟩ := Option.map_eq_some_iff.mp hv
      have hon := List.mem_of_getElem? ho
      have hol := hlt one other hon
      refine ⟨_, rfl, ?_⟩
      have hc1 := ev_ninI (ρ := ρ'.set 4 (.int other)) (a := .var 4) (b := .var 3) (ST_s (σ := σ) (X := Xk) (M := M) hne) rfl (ev_var r3)
      rw [look_sV] at hc1
      by_cases hin : other ∈ Xk
      · rw [decide_eq_true hin] at hc1
        refine st_no hc1 (st_nil (hn _ _ ⟨Xk, rfl, hSk, fun j hj => ?_, hnew, r0, r1, r2, r3⟩))
        rw [take_more ho] at hj
        rcases List.mem_append.mp hj with hj | hj
        · exact hdone j hj
        · rw [List.mem_singleton.mp hj]; exact hin
      · rw [decide_eq_false hin] at hc1
        have hS1 : Seen nbl.length X (Xk ++ [other]) := ⟨fun x h => List.mem_append_left _ (hSk.sub x h), by
          rw [List.nodup_append]
          refine ⟨hSk.nd, List.nodup_cons.mpr ⟨(fun h => nomatch h), List.nodup_nil⟩, fun a ha b hb => ?_⟩
          rw [List.mem_singleton.mp hb]; rintro rfl; exact hin ha, fun x h => by
          rcases List.mem_append.mp h with h | h
          · exact hSk.lt x h
          · rw [List.mem_singleton.mp h]; exact hol⟩
        have hX1 : ∀ x, x ∈ Xk ++ [other] ↔ x ∈ Xk ∨ x = other := fun x => by rw [List.mem_append, List.mem_singleton]
        refine st_yes hc1 (st_setD (es := sV Xk) (x := other) (v := .bool true) rfl (ev_var r3) rfl (ST_s hne) (szX hSk) ?_)
        rw [put_sV hin, ST_ss hne]
        refine st_ifE ?_
        have hc2 := ev_ninI (ρ := ρ'.set 4 (.int other)) (a := .var 4) (b := .var 2) (ST_a (σ := σ) (ds := ds) (X := Xk ++ [other]) (M := M)) rfl (ev_var r2)
        rw [look_mV] at hc2
        show wpE _ (.cmp .notin (.var 4) (.var 2)) _ _ _
        refine evP_ok hc2 ?_
        have fin : ∀ M' X', Succ nbl.length (nbOf nbl) one M (putM M' other one) X X' → (mV M').length ≤ 1000000 → wpSs (specAt P (c + 1)) [.setItem (.var 2) (.var 4) (.var 0), .ret (.cst (.bool true))] (ρ'.set 4 (.int other)) (ST σ ds da X' M') K := fun M' X' R hz' => by
          refine st_setD (es := mV M') (x := other) (v := .int one) (ev_var r0) (ev_var r2) rfl ST_a hz' ?_
          rw [put_mV, ST_sa]
          exact st_ret rfl (hx _ _ _ (qT _ _ R))
        cases hg : getM M other with
        | none =>
          refine fin M (Xk ++ [other]) ?_ (szM hM.keys hM.edge)
          exact succ_free hM hS1 h1 hon (fun z => hin (hSk.sub _ z)) hX hg
        | some i' =>
          show wpE _ (.call 37 _) _ _ _
          refine wp_call (vs := [.int i', .ref db, .ref da, .ref ds]) (ev_cons (ev_subD ST_a (by rw [look_mV, hg]; rfl) (ev_var r2) rfl) (ev_cons (ev_var r1) (ev_cons (ev_var r2) (ev_cons (ev_var r3) ev_nil)))) ?_
          have hlX := nodup_len hSk.nd (m := List.range nbl.length) fun x hx => List.mem_range.mpr (hSk.lt x hx)
          have hlX' : X.length ≤ Xk.length := nodup_len hS.nd hSk.sub
          refine ih i' M (Xk ++ [other]) _ (by rw [List.length_append]; show _ - (_ + 1) ≤ c; omega) hM hMl ⟨fun x h => h, hS1.nd, hS1.lt⟩ (hM.edge _ _ hg).2 (fun j hj => (hX1 j).mpr (.inr (hM.uniq _ _ _ hj hg))) (fun X' F => ?_) fun M' X' R => ?_
          · refine st_nil (S := specAt P (c + 1)) (hn _ _ ⟨X', rfl, ⟨fun x h => F.seen.sub x (hS1.sub x h), F.seen.nd, F.seen.lt⟩, fun j hj => ?_, fun j hj hjX => ?_, r0, r1, r2, r3⟩)
            · rw [take_more ho] at hj
              rcases List.mem_append.mp hj with hj | hj
              · exact F.seen.sub j ((hX1 j).mpr (.inl (hdone j hj)))
              · exact F.seen.sub j ((hX1 j).mpr (.inr (List.mem_singleton.mp hj)))
            · by_cases hj1 : j ∈ Xk ++ [other]
              · rcases (hX1 j).mp hj1 with hj1 | hj1
                · obtain ⟨i, e1, e2⟩ := hnew j hj1 hjX
                  exact ⟨i, e1, fun x hx => F.seen.sub x ((hX1 x).mpr (.inl (e2 x hx)))⟩
                · rw [hj1]; exact ⟨i', hg, F.all⟩
              · exact F.new j hj hj1
          · refine fin M' X' ?_ (szM R.keys R.edge)
            exact (succ_step hM h1 hon hin (fun j hj => hSk.sub j (hX j hj)) hg hX1 R).weaken hSk.sub
    · rintro ρ' σ₁ ⟨Xk, rfl, hSk, hdone, hnew, r0, r1, r2, r3⟩
      rw [List.length_map, List.take_length] at hdone
      exact st_ret rfl (qF Xk ⟨hSk, hdone, hnew⟩)
end Mine

namespace Mine
open PySem

theorem mat_len {nbl : List (List Nat)} {M : Mt} (hM : Mat nbl.length (nbOf nbl) M) (hlt : ∀ i, ∀ j ∈ nbOf nbl i, j < nbl.length) : M.length ≤ nbl.length := by
  have := nodup_len hM.keys (m := List.range nbl.length) fun x hx => by
    obtain ⟨p, hp, rfl⟩ := List.mem_map.mp hx
    exact List.mem_range.mpr (hlt _ _ (hM.edge _ _ (getM_of hM.keys hp)).1)
  rw [List.length_range, List.length_map] at this; exact this
theorem paired_ok {nbl : List (List Nat)} {db : Addr} {ps : List Addr} {σ : Store} {Q : Post} {k : Nat} (hz : nbl.length ≤ 1000) (hk : nbl.length ≤ k) (hB : Bh σ db ps nbl) (hlt : ∀ i, ∀ j ∈ nbOf nbl i, j < nbl.length)
    (q : ∀ da M σ', KeepL σ σ' → (∀ b, σ b ≠ none → σ' b = σ b) → σ da = none → σ' da = some (.di true (mV M)) → Pair (n := nbl.length) (nb := nbOf nbl) nbl.length M → Q (.ref da) σ') : specAt P (k + 2) 38 [.ref db] σ Q := by
  obtain ⟨m, hb⟩ := hB.at_
  refine spec_of (xs := f_paired) rfl rfl ?_
  refine st_asgE fun da hda => ?_
  have hne : db ≠ da := by rintro rfl; rw [hb] at hda; cases hda
  have hlen : evP (Loc.set (fun i => [V.ref db][i]?) 1 (.ref da)) (σ.set da (.di true [])) (.rng1 (.len (.var 0))) = some (.rng 0 (nbl.length : Int)) := ev_rng1 (by
    have := ev_lenL (ρ := Loc.set (fun i => [V.ref db][i]?) 1 (.ref da)) (σ := σ.set da (.di true [])) (a := .var 0) (d := db) (l := ps.map .ref) (m := m) (by rw [set_ne hne]; exact hb) (by rw [List.length_map, hB.len]; omega) rfl
    rw [List.length_map, hB.len] at this; exact this)
  refine st_forR (n := (nbl.length : Int)) hlen (by omega) (forW_of (fun t ρ' σ' => ∃ M, Pair (n := nbl.length) (nb := nbOf nbl) t M ∧ σ' da = some (.di true (mV M)) ∧ KeepL σ σ' ∧ (∀ b, σ b ≠ none → σ' b = σ b) ∧ ρ' 0 = some (.ref db) ∧ ρ' 1 = some (.ref da)) (fun _ _ _ _ _ => trivial) ?_ ?_ ⟨[], pair_zero, set_self, (Ext.new hda).keepL, fun b hb' => set_ne (by rintro rfl; exact hb' hda), rfl, rfl⟩)
  · rintro t v ρ' σ₁ K hv ⟨M, hP, ha, hkeep, hall, r0, r1⟩ hn hx
    obtain ⟨rfl, hlt'⟩ := rng_get hv
    refine ⟨_, rfl, st_expr ?_⟩
    refine ⟨.int t, rfl, _, r0, _, r1, fun ds hds => ?_⟩
    have hsa : ds ≠ da := by rintro rfl; rw [ha] at hds; cases hds
    have hst : σ₁.set ds (.di true []) = ST σ₁ ds da [] M := by
      unfold ST
      funext b
      show (if b = ds then _ else σ₁ b) = if b = da then _ else if b = ds then _ else σ₁ b
      by_cases hb1 : b = ds
      · rw [if_pos hb1, if_neg (by rw [hb1]; exact hsa), if_pos hb1]; rfl
      · rw [if_neg hb1]
        by_cases hb2 : b = da
        · rw [if_pos hb2, hb2, ha]
        · rw [if_neg hb2, if_neg hb1]
    have keepST : ∀ X' M', KeepL σ₁ (ST σ₁ ds da X' M') := fun X' M' a m l e => by
      unfold ST
      rw [set_ne (by rintro rfl; rw [ha] at e; cases e), set_ne (by rintro rfl; rw [hds] at e; cases e)]; exact e
    have allST : ∀ X' M' b, σ b ≠ none → (ST σ₁ ds da X' M') b = σ b := fun X' M' b hb' => by
      have h1 := hall b hb'
      unfold ST
      rw [set_ne (by rintro rfl; exact hb' hda), set_ne (by rintro rfl; rw [hds] at h1; exact hb' h1.symm)]; exact h1
    dsimp only [we_nil]
    rw [hst]
    have h1 : t < nbl.length := by omega
    have hml := mat_len hP.mat hlt
    refine is_placed_ok hz hsa (fun X' M' => (hB.keep hkeep).keep (keepST X' M')) hlt k t M [] _ (by show nbl.length - 0 ≤ k; omega) hP.mat (by omega) ⟨fun x h => h, List.nodup_nil, fun x h => nomatch h⟩ h1 (fun j hj => absurd (hP.low t ⟨j, hj⟩) (Nat.lt_irrefl _)) (fun X' F => ?_) fun M' X' R => ?_
    · exact st_nil (S := specAt P (k + 1)) (hn _ _ ⟨M, pair_fail hP F, ST_a, hkeep.trans (keepST X' M), allST X' M, r0, r1⟩)
    · exact st_nil (S := specAt P (k + 1)) (hn _ _ ⟨M', pair_succ hP R, ST_a, hkeep.trans (keepST X' M'), allST X' M', r0, r1⟩)
  · rintro ρ' σ₁ ⟨M, hP, ha, hkeep, hall, r0, r1⟩
    rw [rng_len (by omega), show ((nbl.length : Int)).toNat = nbl.length from Int.toNat_natCast _] at hP
    exact st_ret (v := .ref da) r1 (q da M σ₁ hkeep hall hda ha hP)
end Mine

namespace Mine
open PySem

section
variable {S : Spec} {ρ : Loc} {σ : Store} {Q : FPost} {r : List Mine.S}
theorem st_forE {t : Tgt} {it : X} {body : List Mine.S} {p : Addr} {m : Bool} {l : List V} (hi : evP ρ σ it = some (.ref p)) (hp : σ p = some (.list m l)) (hz : l.length ≤ 1000000)
    (h : forW (fun σ' => ∃ m', σ' p = some (.list m' l)) (fun v ρ σ Q => ∃ ρ', bindT t v ρ = some ρ' ∧ wpSs S body ρ' σ Q) (enumItems l) ρ σ fun f ρ' σ' => match f with | .next => wpSs S r ρ' σ' Q | .ret v => Q (.ret v) ρ' σ') : wpSs S (.forEnum t it body :: r) ρ σ Q :=
  evP_ok (e := it) hi ⟨p, m, l, rfl, hp, hz, h⟩
theorem isDict_I {p : Addr} {m : Bool} {es : List (Int × V)} (h : σ p = some (.di m es)) : isDict σ (.ref p) = true := by
  show (match σ p with | some (.ds ..) => true | some (.di ..) => true | _ => false) = true
  rw [h]
theorem st_forI {t : Tgt} {it : X} {body : List Mine.S} {p : Addr} {m : Bool} {es : List (Int × V)} (hi : evP ρ σ it = some (.ref p)) (hp : σ p = some (.di m es))
    (h : forW (fun _ => True) (fun v ρ σ Q => ∃ ρ', bindT t v ρ = some ρ' ∧ wpSs S body ρ' σ Q) (es.map fun e => V.int e.1) ρ (σ.set p (.di false es)) fun f ρ' σ' => σ' p = some (.di false es) ∧ match f with | .next => wpSs S r ρ' (σ'.set p (.di m es)) Q | .ret v => Q (.ret v) ρ' (σ'.set p (.di m es))) : wpSs S (.for t it body :: r) ρ σ Q := by
  refine evP_ok (e := it) hi (ite_yes (isDict_I hp) ?_)
  exact ⟨p, _, _, rfl, hp, rfl, h⟩
end

noncomputable def rowN (roads : List Ride) (ts : List Trip) (t : Trip) : List Nat := (ts.zipIdx.filter fun x => canB roads t x.1).map (·.2)
noncomputable def nblOf (roads : List Ride) (ts : List Trip) : List (List Nat) := ts.map (rowN roads ts)
theorem mem_rowN {roads : List Ride} {ts : List Trip} {t : Trip} {j : Nat} : j ∈ rowN roads ts t ↔ ∃ u, ts[j]? = some u ∧ canB roads t u = true := by
  unfold rowN
  constructor
  · intro h
    obtain ⟨x, hx, rfl⟩ := List.mem_map.mp h
    obtain ⟨h1, h2⟩ := List.mem_filter.mp hx
    exact ⟨x.1, List.mem_zipIdx_iff_getElem?.mp h1, h2⟩
  · rintro ⟨u, h1, h2⟩
    exact List.mem_map.mpr ⟨(u, j), List.mem_filter.mpr ⟨List.mem_zipIdx_iff_getElem?.mpr h1, h2⟩, rfl⟩
theorem nbl_len {roads : List Ride} {ts : List Trip} : (nblOf roads ts).length = ts.length := List.length_map _
theorem mem_nb {roads : List Ride} {ts : List Trip} {i j : Nat} : j ∈ nbOf (nblOf roads ts) i ↔ ∃ t u, ts[i]? = some t ∧ ts[j]? = some u ∧ canB roads t u = true := by
  unfold nbOf nblOf
  rw [List.getElem?_map]
  cases h : ts[i]? with
  | none => exact ⟨(fun h => nomatch h), fun ⟨_, _, h, _⟩ => nomatch h⟩
  | some t =>
    show j ∈ rowN roads ts t ↔ _
    rw [mem_rowN]
    exact ⟨fun ⟨u, h1, h2⟩ => ⟨t, u, rfl, h1, h2⟩, fun ⟨t', u, e, h1, h2⟩ => by cases e; exact ⟨u, h1, h2⟩⟩
theorem nb_lt {roads : List Ride} {ts : List Trip} : ∀ i, ∀ j ∈ nbOf (nblOf roads ts) i, j < (nblOf roads ts).length := fun i j h => by
  obtain ⟨_, u, _, h2, _⟩ := mem_nb.mp h
  rw [nbl_len]; exact (List.getElem?_eq_some_iff.mp h2).1
theorem followers_ok {k : Nat} {rs : List Ride} {ts : List Trip} (hR : ∀ r ∈ rs, RideOK r) (hT : ∀ t ∈ ts, TripOK t) (hsz : rs.length + ts.length ≤ 1000) {σ : Store} {a b : Addr} {m m' : Bool} {Q : Post} (ha : σ a = some (.list m (rs.map rideV))) (hb : σ b = some (.list m' (ts.map tripV)))
    (q : ∀ d ps σ', Ext σ σ' → Bh σ' d ps (nblOf (roadsOf rs ts) ts) → Q (.ref d) σ') : specAt P (k + 2) 36 [.ref a, .ref b] σ Q := by
  have lt : (ts.map tripV).length ≤ 1000000 := by rw [List.length_map]; omega
  have hpos := roads_pos hR hT
  have hrl := roads_len hsz
  refine spec_of (xs := f_followers) rfl rfl ?_
  refine st_asgE (wp_call (vs := [.ref a, .ref b]) rfl (all_roads_ok ha hb hsz fun dl hdl => ?_))
  have x1 := Ext.new (o := .list true ((roadsOf rs ts).map rideV)) hdl
  have kl : (σ.set dl (.list true ((roadsOf rs ts).map rideV))) dl = some (.list true ((roadsOf rs ts).map rideV)) := set_self
  have hb := x1 _ _ hb
  generalize σ.set dl (.list true ((roadsOf rs ts).map rideV)) = σ₁ at x1 kl hb ⊢
  generalize hroads : roadsOf rs ts = roads at *
  refine st_asgE (wp_list rfl fun da hda => ?_)
  refine st_forL (p := b) rfl (Ext.new hda _ _ hb) (forW_of (fun i ρ' σ' => Ext σ₁ σ' ∧ ρ' 1 = some (.ref b) ∧ ρ' 2 = some (.ref dl) ∧ ρ' 3 = some (.ref da) ∧
      ∃ ps : List Addr, ps.length = i ∧ σ' da = some (.list true (ps.map .ref)) ∧ ∀ (k : Nat) p t, ps[k]? = some p → ts[k]? = some t → p ≠ da ∧ σ' p = some (.list true ((rowN roads ts t).map fun (j : Nat) => V.int j))) (fun _ _ _ _ h => ⟨_, h.1 _ _ hb⟩) ?_ ?_ ⟨Ext.new hda, rfl, rfl, rfl, [], rfl, set_self, fun k p t h => nomatch h⟩)
  · rintro i v ρ' σ₂ K hv ⟨e2, r1, r2, r3, ps, hps, hda2, hrows⟩ hn hx
    rw [List.getElem?_map] at hv
    obtain ⟨t, ht, rfl⟩ := Option.map_eq_some_iff.mp hv
    refine ⟨_, rfl, ?_⟩
    obtain ⟨es, L, hl⟩ := least_from_ok (place := t.2.2.1) hpos (Nat.le_trans hrl (by decide))
    refine st_asgE (wp_call (vs := [.ref dl, .str t.2.2.1]) (ev_cons (ev_var r2) (ev_cons rfl ev_nil)) (hl _ _ _ _ _ (e2 _ _ kl) fun df hdf => ?_))
    have x3 := Ext.new (o := .ds true (esV es)) hdf
    have hfs : (σ₂.set df (.ds true (esV es))) df = some (.ds true (esV es)) := set_self
    have e3 := e2.trans x3
    have hda3 := x3 _ _ hda2
    have hrows3 : ∀ (k : Nat) p t, ps[k]? = some p → ts[k]? = some t → p ≠ da ∧ (σ₂.set df (.ds true (esV es))) p = some (.list true ((rowN roads ts t).map fun (j : Nat) => V.int j)) := fun k p t h h' => ⟨(hrows k p t h h').1, x3 _ _ (hrows k p t h h').2⟩
    generalize σ₂.set df (.ds true (esV es)) = σ₃ at hfs e3 hda3 hrows3 ⊢
    refine st_asgE (wp_list rfl fun dr hdr => ?_)
    have hra : da ≠ dr := by rintro rfl; rw [hda3] at hdr; cases hdr
    have hrf : df ≠ dr := by rintro rfl; rw [hfs] at hdr; cases hdr
    have old : ∀ b' o o', σ₃ b' = some o → (σ₃.set dr o') b' = some o := fun b' o o' h => by rw [set_ne (by rintro rfl; rw [hdr] at h; cases h)]; exact h
    refine st_forE (p := b) (l := ts.map tripV) (ev_var r1) (old _ _ _ (e3 _ _ hb)) lt (forW_of (fun j ρ'' σ' => σ' = σ₃.set dr (.list true (((ts.zipIdx.take j).filter fun x => canB roads t x.1).map fun x => V.int x.2)) ∧ ρ'' 1 = some (.ref b) ∧ ρ'' 2 = some (.ref dl) ∧ ρ'' 3 = some (.ref da) ∧ ρ'' 4 = some (tripV t) ∧ ρ'' 5 = some (.ref df) ∧ ρ'' 6 = some (.ref dr)) (fun _ _ _ _ h => by rw [h.1]; exact ⟨_, old _ _ _ (e3 _ _ hb)⟩) ?_ ?_ ⟨rfl, r1, r2, r3, rfl, rfl, rfl⟩)
    · rintro j w ρ'' σ₄ K' hw ⟨rfl, p1, p2, p3, p4, p5, p6⟩ hn' hx'
      rw [enum_get, List.getElem?_map] at hw
      cases hu : ts[j]? with
      | none => rw [hu] at hw; cases hw
      | some u =>
        rw [hu] at hw; cases hw
        refine ⟨_, rfl, ?_⟩
        have hz : ts.zipIdx[j]? = some (u, j) := by rw [List.getElem?_zipIdx, hu]; show some (u, 0 + j) = _; rw [Nat.zero_add]
        have hfs' := old df _ (.list true (((ts.zipIdx.take j).filter fun x => canB roads t x.1).map fun x => V.int x.2)) hfs
        have hc : evP (((ρ''.set 7 (.int j)).set 8 (tripV u))) (σ₃.set dr (.list true (((ts.zipIdx.take j).filter fun x => canB roads t x.1).map fun x => V.int x.2))) (.and (.cmp .isin (.sub (.var 8) (.cst (.int 0))) (.var 5)) (.cmp .le (.bin .add (.sub (.var 4) (.cst (.int 3))) (.sub (.var 5) (.sub (.var 8) (.cst (.int 0))))) (.sub (.var 8) (.cst (.int 1))))) = some (.bool (canB roads t u)) := by
          have s0 := ev_sub (ρ := (ρ''.set 7 (.int j)).set 8 (tripV u)) (σ := σ₃.set dr (.list true (((ts.zipIdx.take j).filter fun x => canB roads t x.1).map fun x => V.int x.2))) (a := .var 8) (b := .cst (.int 0)) (x := tripV u) (y := .int 0) (v := .str u.1) rfl rfl rfl
          unfold canB
          rw [dist_same L hpos]
          refine ev_and (ev_in hfs' s0 (ev_var p5)) fun h => ?_
          cases hg : getE es u.1 with
          | none => rw [hg] at h; cases h
          | some d' => exact ev_leI (ev_add (ev_sub (ev_var p4) rfl rfl) (ev_at hfs' hg (ev_var p5) s0)) (ev_sub rfl rfl rfl)
        cases hcu : canB roads t u with
        | false =>
          rw [hcu] at hc
          refine st_no hc (st_nil (hn' _ _ ⟨?_, p1, p2, p3, p4, p5, p6⟩))
          rw [take_more hz, List.filter_append, List.filter_cons_of_neg (by rw [hcu]; decide), List.filter_nil, List.append_nil]
        | true =>
          rw [hcu] at hc
          refine st_yes hc (st_app (o := 6) (p := dr) (v := .int j) p6 set_self rfl ?_ (st_nil (hn' _ _ ⟨?_, p1, p2, p3, p4, p5, p6⟩)))
          · rw [List.length_map]
            refine Nat.le_trans (List.length_filter_le _ _) ?_
            rw [List.length_take, List.length_zipIdx]; omega
          · rw [set_set, take_more hz, List.filter_append, List.filter_cons_of_pos (p := fun x : Trip × Nat => canB roads t x.1) (a := (u, j)) hcu, List.filter_nil, List.map_append]; rfl
    · rintro ρ'' σ₄ ⟨rfl, p1, p2, p3, p4, p5, p6⟩
      have hrow : (ts.zipIdx.take (enumItems (ts.map tripV)).length).filter (fun x => canB roads t x.1) = ts.zipIdx.filter fun x => canB roads t x.1 := by
        rw [enum_len, List.length_map, List.take_of_length_le (by rw [List.length_zipIdx]; exact Nat.le_refl _)]
      rw [hrow]
      have hrv : ((ts.zipIdx.filter fun x => canB roads t x.1).map fun x => V.int x.2) = (rowN roads ts t).map fun (j : Nat) => V.int j := by unfold rowN; rw [List.map_map]; rfl
      rw [hrv]
      refine st_app (o := 3) (p := da) p3 (old _ _ _ hda3) (ev_var p6) ?_ (st_nil (hn _ _ ⟨?_, p1, p2, p3, ps ++ [dr], ?_, ?_, ?_⟩))
      · rw [List.length_map, hps]
        have := (List.getElem?_eq_some_iff.mp ht).1; omega
      · intro b' o h
        rw [set_ne (by rintro rfl; rw [hda] at h; cases h)]
        exact old _ _ _ (e3 _ _ h)
      · rw [List.length_append, hps]; rfl
      · rw [set_self, List.map_append]; rfl
      · intro k' p t' hp ht'
        by_cases hk : k' < ps.length
        · rw [List.getElem?_append_left hk] at hp
          obtain ⟨g1, g3⟩ := hrows3 k' p t' hp ht'
          refine ⟨g1, ?_⟩
          rw [set_ne g1]; exact old _ _ _ g3
        · have hk' : k' = ps.length := by
            have := (List.getElem?_eq_some_iff.mp hp).1
            rw [List.length_append] at this
            have : k' < ps.length + 1 := this
            omega
          subst hk'
          rw [List.getElem?_append_right (Nat.le_refl _), Nat.sub_self] at hp
          cases hp
          rw [hps, ht] at ht'; cases ht'
          exact ⟨Ne.symm hra, by rw [set_ne (Ne.symm hra)]; exact set_self⟩
  · rintro ρ' σ₂ ⟨e2, r1, r2, r3, ps, hps, hda2, hrows⟩
    rw [List.length_map] at hps
    refine st_ret (v := .ref da) r3 (q da ps σ₂ (x1.trans e2) ⟨⟨true, hda2⟩, by rw [hps, nbl_len], fun i p b' hp hb' => ?_⟩)
    unfold nblOf at hb'
    rw [List.getElem?_map] at hb'
    obtain ⟨t, ht, rfl⟩ := Option.map_eq_some_iff.mp hb'
    exact ⟨true, (hrows i p t hp ht).2⟩
end Mine

namespace Mine
open PySem

theorem nodup_at {α : Type} {l : List α} (h : l.Nodup) {i j : Nat} {x : α} (hi : l[i]? = some x) (hj : l[j]? = some x) : i = j := by
  obtain ⟨a1, b1⟩ := List.getElem?_eq_some_iff.mp hi
  obtain ⟨a2, b2⟩ := List.getElem?_eq_some_iff.mp hj
  exact (List.getElem_inj h).mp (b1.trans b2.symm)
theorem nodup_of {α : Type} : ∀ {l : List α}, (∀ (i j : Nat) x, l[i]? = some x → l[j]? = some x → i = j) → l.Nodup
  | [], _ => List.nodup_nil
  | a :: l, h => List.nodup_cons.mpr ⟨fun hm => by
      obtain ⟨k, hk⟩ := List.getElem?_of_mem hm
      exact absurd (h 0 (k + 1) a rfl hk) (Nat.succ_ne_zero k).symm, nodup_of fun i j x hi hj => Nat.succ.inj (h (i + 1) (j + 1) x hi hj)⟩
section
variable {n : Nat} {nb : Nat → List Nat} {M : Mt}
theorem Mat.vals (hM : Mat n nb M) : (M.map (·.2)).Nodup := nodup_of fun i j x hi hj => by
  rw [List.getElem?_map] at hi hj
  obtain ⟨p, hp, rfl⟩ := Option.map_eq_some_iff.mp hi
  obtain ⟨p', hp', e⟩ := Option.map_eq_some_iff.mp hj
  have g1 := getM_of hM.keys (List.mem_of_getElem? hp)
  have g2 := getM_of hM.keys (List.mem_of_getElem? hp')
  rw [e] at g2
  have hk := hM.uniq _ _ _ g1 g2
  refine nodup_at hM.keys (x := p.1) ?_ ?_
  · rw [List.getElem?_map, hp]; rfl
  · rw [List.getElem?_map, hp', hk]; rfl
noncomputable def sw (M : Mt) : Mt := M.map fun p => (p.2, p.1)
theorem sw_keys : (sw M).map (·.1) = M.map (·.2) := by unfold sw; rw [List.map_map]; rfl
theorem get_sw (hM : Mat n nb M) {i j : Nat} : getM (sw M) i = some j ↔ getM M j = some i := by
  constructor
  · intro h
    obtain ⟨p, hp, e⟩ := List.mem_map.mp (getM_mem h)
    cases e; exact getM_of hM.keys hp
  · intro h
    have hm : (i, j) ∈ sw M := List.mem_map.mpr ⟨(j, i), getM_mem h, rfl⟩
    exact getM_of (by rw [sw_keys]; exact hM.vals) hm
end
theorem putM_new {M : Mt} {j i : Nat} (h : j ∉ M.map (·.1)) : putM M j i = M ++ [(j, i)] := by
  unfold putM
  rw [if_neg]
  intro z
  obtain ⟨p, hp, e⟩ := List.any_eq_true.mp z
  exact h (List.mem_map.mpr ⟨p, hp, of_decide_eq_true e⟩)
theorem take_keys {M : Mt} {k : Nat} {p : Nat × Nat} {f : Nat × Nat → Nat} (h : (M.map f).Nodup) (hp : M[k]? = some p) : f p ∉ (M.take k).map f := fun hm => by
  obtain ⟨q, hq, e⟩ := List.mem_map.mp hm
  obtain ⟨i, hi⟩ := List.getElem?_of_mem hq
  have hik : i < k := by
    have := (List.getElem?_eq_some_iff.mp hi).1
    rw [List.length_take] at this; omega
  rw [List.getElem?_take_of_lt hik] at hi
  have := nodup_at h (i := i) (j := k) (x := f p) (by rw [List.getElem?_map, hi]; exact congrArg some e) (by rw [List.getElem?_map, hp]; rfl)
  omega
theorem sub_lastI {σ : Store} {p : Addr} {m : Bool} {l : List V} {n : Nat} {v : V} (hp : σ p = some (.list m l)) (hl : l.length = n + 1) (h : l[n]? = some v) : subV σ (.ref p) (.int (-1)) = some v := by
  show (match σ p, V.int (-1) with | some (.list _ l), .int i => idxL l i | some (.ds _ es), .str k => look es k | some (.di _ es), .int k => look es k | _, _ => Option.none) = _
  rw [hp]
  show idxL l (-1) = _
  unfold idxL
  rw [if_neg (by decide), if_pos (by omega), show ((l.length : Int) + -1).toNat = n by omega]
  exact h
/-- a row: from its first number on, each the partner of the one ahead -/
structure IsRow (M : Mt) (h : Nat) (r : List Nat) : Prop where
  head : r[0]? = some h
  step : ∀ (k : Nat) a b, r[k]? = some a → r[k + 1]? = some b → getM M b = some a
  last : ∀ a, r[r.length - 1]? = some a → ∀ b, getM M b ≠ some a
noncomputable def headsOf (M : Mt) (t : Nat) : List Nat := (List.range t).filter fun v => (getM M v).isNone
theorem heads_succ {M : Mt} {t : Nat} : headsOf M (t + 1) = if (getM M t).isNone then headsOf M t ++ [t] else headsOf M t := by
  unfold headsOf
  rw [List.range_succ, List.filter_append]
  cases h : (getM M t).isNone with
  | true => rw [List.filter_cons_of_pos (p := fun v => (getM M v).isNone) (a := t) h]; rfl
  | false => rw [List.filter_cons_of_neg (p := fun v => (getM M v).isNone) (a := t) (by rw [h]; decide)]; exact List.append_nil _
/-- rows of numbers, as they stand in the store -/
structure RowsAt (σ : Store) (d : Addr) (ps : List Addr) (rows : List (List Nat)) : Prop where
  at_ : σ d = some (.list true (ps.map .ref))
  len : ps.length = rows.length
  row : ∀ (i : Nat) p r, ps[i]? = some p → rows[i]? = some r → p ≠ d ∧ σ p = some (.list true (r.map fun (j : Nat) => V.int j))
theorem rows_of_ok {nbl : List (List Nat)} {db : Addr} {ps : List Addr} {σ : Store} {da : Addr} {M : Mt} {Q : Post} {k R : Nat} {rk : Nat → Nat} (hz : nbl.length ≤ 1000) (hB : Bh σ db ps nbl) (hlt : ∀ i, ∀ j ∈ nbOf nbl i, j < nbl.length) (hM : Mat nbl.length (nbOf nbl) M) (ha : σ da = some (.di true (mV M)))
    (hrk : ∀ i, ∀ j ∈ nbOf nbl i, rk i < rk j) (hR : ∀ j, rk j ≤ R) (hRz : R ≤ 200000)
    (q : ∀ d qs rows σ', Ext σ σ' → RowsAt σ' d qs rows → σ d = none → (∀ p ∈ qs, σ p = none) → rows.length = (headsOf M nbl.length).length → (∀ (i : Nat) r h, rows[i]? = some r → (headsOf M nbl.length)[i]? = some h → IsRow M h r) → Q (.ref d) σ') : specAt P (k + 1) 39 [.ref db, .ref da] σ Q := by
  obtain ⟨m, hb⟩ := hB.at_
  have hml := mat_len hM hlt
  refine spec_of (xs := f_rows_of) rfl rfl ?_
  refine st_asgE fun d2 hd2 => ?_
  have h2a : da ≠ d2 := by rintro rfl; rw [ha] at hd2; cases hd2
  have ha2 : (σ.set d2 (.di true [])) da = some (.di true (mV M)) := by rw [set_ne h2a]; exact ha
  refine st_forI (p := da) rfl ha2 (forW_of (fun j ρ' σ' => σ' = (σ.set d2 (.di true (mV (sw (M.take j))))).set da (.di false (mV M)) ∧ ρ' 0 = some (.ref db) ∧ ρ' 1 = some (.ref da) ∧ ρ' 2 = some (.ref d2)) (fun _ _ _ _ _ => trivial) ?_ ?_ ⟨rfl, rfl, rfl, rfl⟩)
  · rintro j v ρ' σ₁ K hv ⟨rfl, r0, r1, r2⟩ hn hx
    have hv' : ∃ p, M[j]? = some p ∧ v = .int p.1 := by
      unfold mV at hv
      rw [List.map_map, List.getElem?_map] at hv
      obtain ⟨p, hp, rfl⟩ := Option.map_eq_some_iff.mp hv
      exact ⟨p, hp, rfl⟩
    obtain ⟨p, hp, rfl⟩ := hv'
    have hgp := getM_of hM.keys (List.mem_of_getElem? hp)
    refine ⟨_, rfl, ?_⟩
    have hd2' : ((σ.set d2 (.di true (mV (sw (M.take j))))).set da (.di false (mV M))) d2 = some (.di true (mV (sw (M.take j)))) := by rw [set_ne (Ne.symm h2a)]; exact set_self
    refine st_setD (es := mV (sw (M.take j))) (x := p.2) (v := .int p.1) rfl (ev_var r2) (ev_subD (m := false) (es := mV M) (d := da) set_self (by rw [look_mV, hgp]; rfl) (ev_var r1) rfl) hd2' ?_ (st_nil (hn _ _ ⟨?_, r0, r1, r2⟩))
    · unfold mV sw; rw [List.length_map, List.length_map, List.length_take]; omega
    · rw [put_mV, putM_new (by rw [sw_keys]; exact take_keys hM.vals hp)]
      have : sw (M.take j) ++ [(p.2, p.1)] = sw (M.take (j + 1)) := by rw [take_more hp]; unfold sw; rw [List.map_append]; rfl
      rw [this]
      funext b
      show (if b = d2 then _ else if b = da then _ else if b = d2 then _ else σ b) = if b = da then _ else if b = d2 then _ else σ b
      by_cases hb1 : b = d2
      · rw [if_pos hb1, if_neg (by rw [hb1]; exact Ne.symm h2a), if_pos hb1]
      · rw [if_neg hb1, if_neg hb1, if_neg hb1]
  · rintro ρ' σ₁ ⟨rfl, r0, r1, r2⟩
    refine ⟨set_self, ?_⟩
    have hlenM : (List.map (fun e => V.int e.1) (mV M)).length = M.length := by unfold mV; rw [List.length_map, List.length_map]
    rw [hlenM, List.take_length, set_set]
    have hback : (σ.set d2 (.di true (mV (sw M)))).set da (.di true (mV M)) = σ.set d2 (.di true (mV (sw M))) := set_same (by rw [set_ne h2a]; exact ha)
    rw [hback]
    have x2 : Ext σ (σ.set d2 (.di true (mV (sw M)))) := Ext.new hd2
    have k2 : (σ.set d2 (.di true (mV (sw M)))) d2 = some (.di true (mV (sw M))) := set_self
    have free2 : ∀ b, (σ.set d2 (.di true (mV (sw M)))) b = none → σ b = none := fun b h => by
      by_cases hb1 : b = d2
      · rw [hb1]; exact hd2
      · rw [set_ne hb1] at h; exact h
    generalize σ.set d2 (.di true (mV (sw M))) = σ₂ at x2 k2 free2 ⊢
    refine st_asgE (wp_list rfl fun df hdf => ?_)
    have hlen : evP (ρ'.set 4 (.ref df)) (σ₂.set df (.list true [])) (.rng1 (.len (.var 0))) = some (.rng 0 (nbl.length : Int)) := ev_rng1 (by
      have := ev_lenL (ρ := ρ'.set 4 (.ref df)) (σ := σ₂.set df (.list true [])) (a := .var 0) (d := db) (l := ps.map .ref) (m := m) (Ext.new hdf _ _ (x2 _ _ hb)) (by rw [List.length_map, hB.len]; omega) (ev_var r0)
      rw [List.length_map, hB.len] at this; exact this)
    refine st_forR (n := (nbl.length : Int)) hlen (by omega) (forW_of (fun t ρ' σ' => Ext σ₂ σ' ∧ ρ' 1 = some (.ref da) ∧ ρ' 2 = some (.ref d2) ∧ ρ' 4 = some (.ref df) ∧ ∃ qs rows, RowsAt σ' df qs rows ∧ (∀ p ∈ qs, σ₂ p = none) ∧ rows.length = (headsOf M t).length ∧ ∀ (i : Nat) r h, rows[i]? = some r → (headsOf M t)[i]? = some h → IsRow M h r) (fun _ _ _ _ _ => trivial) ?_ ?_ ⟨Ext.new hdf, r1, r2, rfl, [], [], ⟨set_self, rfl, (fun i p r h => nomatch h)⟩, (fun p h => nomatch h), rfl, (fun i r h h' => nomatch h')⟩)
    · rintro t v ρ₁ σ₃ K hv ⟨e3, p1, p2, p4, qs, rows, hrows, hfree, hrl, hisr⟩ hn hx
      obtain ⟨rfl, htl⟩ := rng_get hv
      refine ⟨_, rfl, ?_⟩
      have hc := ev_ninI (ρ := ρ₁.set 5 (.int t)) (a := .var 5) (b := .var 1) (e3 _ _ (x2 _ _ ha)) rfl (ev_var p1)
      rw [look_mV] at hc
      cases hg : getM M t with
      | some i =>
        rw [hg] at hc
        refine st_no hc (st_nil (hn _ _ ⟨e3, p1, p2, p4, qs, rows, hrows, hfree, ?_⟩))
        rw [heads_succ, hg]; exact ⟨hrl, hisr⟩
      | none =>
        rw [hg] at hc
        refine st_yes hc (st_asgE (wp_list rfl fun dr hdr => ?_))
        have hfr : df ≠ dr := by rintro rfl; rw [hrows.at_] at hdr; cases hdr
        have old : ∀ b o o', σ₃ b = some o → (σ₃.set dr o') b = some o := fun b o o' h => by rw [set_ne (by rintro rfl; rw [hdr] at h; cases h)]; exact h
        -- the row grows
        have loop : ∀ (c : Nat) (r : List Nat) (x : Nat) (ρ : Loc) (Q' : FPost), r[r.length - 1]? = some x → r ≠ [] → R - rk x < c → r[0]? = some t → r.length ≤ rk x + 1 → (∀ (k : Nat) a b, r[k]? = some a → r[k + 1]? = some b → getM M b = some a) → ρ 1 = some (.ref da) → ρ 2 = some (.ref d2) → ρ 4 = some (.ref df) → ρ 6 = some (.ref dr) →
            (∀ ρ r', IsRow M t r' → ρ 1 = some (.ref da) → ρ 2 = some (.ref d2) → ρ 4 = some (.ref df) → ρ 6 = some (.ref dr) → Q' .next ρ (σ₃.set dr (.list true (r'.map fun (j : Nat) => V.int j)))) →
            whileW (fun ρ σ Q => wpE (specAt P k) (.cmp .isin (.sub (.var 6) (.cst (.int (-1)))) (.var 2)) ρ σ (asBool Q)) (fun ρ σ Q => wpSs (specAt P k) [.expr (.append (.var 6) (.sub (.var 2) (.sub (.var 6) (.cst (.int (-1))))))] ρ σ Q) c ρ (σ₃.set dr (.list true (r.map fun (j : Nat) => V.int j))) Q' := by
          intro c
          induction c with
          | zero => intro r x ρ Q' _ _ h; exact absurd h (Nat.not_lt_zero _)
          | succ c ih =>
            intro r x ρ Q' hlast hne hfuel hhead hrlen hstep w1 w2 w4 w6 hQ
            obtain ⟨l', hl'⟩ : ∃ l', r.length = l' + 1 := by cases r with | nil => exact absurd rfl hne | cons a r => exact ⟨r.length, rfl⟩
            have hsub : evP ρ (σ₃.set dr (.list true (r.map fun (j : Nat) => V.int j))) (.sub (.var 6) (.cst (.int (-1)))) = some (.int x) := ev_sub (ev_var w6) rfl (sub_lastI (n := l') set_self (by rw [List.length_map]; exact hl') (by rw [List.getElem?_map]; rw [hl'] at hlast; rw [show l' + 1 - 1 = l' from rfl] at hlast; rw [hlast]; rfl))
            have hc' := ev_inI (old _ _ (.list true (r.map fun (j : Nat) => V.int j)) (e3 _ _ k2)) hsub (ev_var w2)
            rw [look_mV] at hc'
            refine evP_ok (S := specAt P k) hc' ?_
            cases hga : getM (sw M) x with
            | none =>
              refine hQ ρ r ⟨hhead, hstep, fun a ha b hb' => ?_⟩ w1 w2 w4 w6
              rw [hlast] at ha; cases ha
              rw [(get_sw hM).mpr hb'] at hga; cases hga
            | some y =>
              have hxy := (get_sw hM).mp hga
              have hr := hrk x y (hM.edge _ _ hxy).1
              have hRy := hR y
              show wpSs _ _ _ _ _
              refine st_app (o := 6) (p := dr) (v := .int y) w6 set_self (ev_subD (old _ _ (.list true (r.map fun (j : Nat) => V.int j)) (e3 _ _ k2)) (by rw [look_mV, hga]; rfl) (ev_var w2) hsub) (by rw [List.length_map]; omega) ?_
              rw [set_set]
              have e : (r.map fun (j : Nat) => V.int j) ++ [.int y] = (r ++ [y]).map fun (j : Nat) => V.int j := by rw [List.map_append]; rfl
              rw [e]
              have hl2 : (r ++ [y]).length = r.length + 1 := by rw [List.length_append]; rfl
              refine ih (r ++ [y]) y ρ Q' (by rw [hl2, show r.length + 1 - 1 = r.length from rfl, List.getElem?_append_right (Nat.le_refl _), Nat.sub_self]; rfl) (fun z => by have := congrArg List.length z; rw [hl2] at this; cases this) (by omega) (by rw [List.getElem?_append_left (by omega)]; exact hhead) (by rw [hl2]; omega) (fun k' a b h1 h2 => ?_) w1 w2 w4 w6 hQ
              have hk2 : k' + 1 < r.length + 1 := by have := (List.getElem?_eq_some_iff.mp h2).1; rw [hl2] at this; exact this
              rw [List.getElem?_append_left (by omega)] at h1
              by_cases hk3 : k' + 1 < r.length
              · rw [List.getElem?_append_left hk3] at h2; exact hstep k' a b h1 h2
              · have hk4 : k' + 1 = r.length := by omega
                rw [hk4, List.getElem?_append_right (Nat.le_refl _), Nat.sub_self] at h2
                cases h2
                rw [show k' = r.length - 1 by omega, hlast] at h1; cases h1
                exact hxy
        refine st_while (n := R + 1) (loop (R + 1) [t] t _ _ rfl (fun h => nomatch h) (by omega) rfl (by show 1 ≤ _; omega) (fun k' a b _ h => nomatch h) p1 p2 p4 rfl fun ρ₂ r' hr' w1 w2 w4 w6 => ?_)
        refine st_app (o := 4) (p := df) w4 (old _ _ _ hrows.at_) (ev_var w6) ?_ (st_nil (hn _ _ ⟨?_, w1, w2, w4, qs ++ [dr], rows ++ [r'], ⟨?_, ?_, ?_⟩, ?_, ?_, ?_⟩))
        · rw [List.length_map, hrows.len, hrl]
          have : (headsOf M t).length ≤ t := by unfold headsOf; refine Nat.le_trans (List.length_filter_le _ _) ?_; rw [List.length_range]; exact Nat.le_refl _
          omega
        · intro b o h
          rw [set_ne (by rintro rfl; rw [hdf] at h; cases h)]
          exact old _ _ _ (e3 _ _ h)
        · rw [set_self, List.map_append]; rfl
        · rw [List.length_append, List.length_append, hrows.len]; rfl
        · intro i p r hp hr
          by_cases hi : i < qs.length
          · rw [List.getElem?_append_left hi] at hp
            rw [List.getElem?_append_left (by rw [← hrows.len]; exact hi)] at hr
            obtain ⟨g1, g2⟩ := hrows.row i p r hp hr
            exact ⟨g1, by rw [set_ne g1]; exact old _ _ _ g2⟩
          · have hi' : i = qs.length := by
              have := (List.getElem?_eq_some_iff.mp hp).1
              rw [List.length_append] at this
              have : i < qs.length + 1 := this
              omega
            subst hi'
            rw [List.getElem?_append_right (Nat.le_refl _), Nat.sub_self] at hp
            cases hp
            rw [hrows.len, List.getElem?_append_right (Nat.le_refl _), Nat.sub_self] at hr
            cases hr
            exact ⟨Ne.symm hfr, by rw [set_ne (Ne.symm hfr)]; exact set_self⟩
        · intro p hp
          rcases List.mem_append.mp hp with hp | hp
          · exact hfree p hp
          · rw [List.mem_singleton.mp hp]
            cases hq : σ₂ dr with
            | none => rfl
            | some o => rw [e3 _ _ hq] at hdr; cases hdr
        · rw [heads_succ, hg, List.length_append, hrl]
          show _ = (headsOf M t ++ [t]).length
          rw [List.length_append]; rfl
        · intro i r h hr hh
          rw [heads_succ, hg] at hh
          have hh : (headsOf M t ++ [t])[i]? = some h := hh
          by_cases hi : i < rows.length
          · rw [List.getElem?_append_left hi] at hr
            rw [List.getElem?_append_left (by rw [← hrl]; exact hi)] at hh
            exact hisr i r h hr hh
          · have hi' : i = rows.length := by
              have := (List.getElem?_eq_some_iff.mp hr).1
              rw [List.length_append] at this
              have : i < rows.length + 1 := this
              omega
            subst hi'
            rw [List.getElem?_append_right (Nat.le_refl _), Nat.sub_self] at hr
            cases hr
            rw [hrl, List.getElem?_append_right (Nat.le_refl _), Nat.sub_self] at hh
            cases hh; exact hr'
    · rintro ρ₁ σ₃ ⟨e3, p1, p2, p4, qs, rows, hrows, hfree, hrl, hisr⟩
      rw [rng_len (by omega), show ((nbl.length : Int)).toNat = nbl.length from Int.toNat_natCast _] at hrl hisr
      exact st_ret (v := .ref df) p4 (q df qs rows σ₃ (x2.trans e3) hrows (free2 _ hdf) (fun p hp => free2 _ (hfree p hp)) hrl hisr)
end Mine

namespace Mine
open PySem

theorem wp_compIfR {S : Spec} {ρ : Loc} {σ : Store} {Q : Post} {i : Nat} {it c elt : X} {n : Nat} (hi : evP ρ σ it = some (.rng 0 (n : Int))) (hn : n ≤ 1000000) (g : Nat → Bool) (f : Nat → V) (he : ∀ j : Nat, j < n → evP (ρ.set i (.int j)) σ c = some (.bool (g j)) ∧ (g j = true → evP (ρ.set i (.int j)) σ elt = some (f j)))
    (q : ∀ d, σ d = none → Q (.ref d) (σ.set d (.list true (((List.range n).filter g).map f)))) : wpE S (.compIf (.one i) it c elt) ρ σ Q := by
  refine evP_ok (e := it) hi ⟨_, _, .rng (by omega), by rw [rng_len (by omega)]; omega, ?_⟩
  refine compW_of (fun k acc σ' => σ' = σ ∧ acc = ((List.range k).filter g).map f) (fun _ _ _ _ _ => trivial) ?_ ?_ ⟨rfl, rfl⟩
  · rintro k v acc σ' K₁ K₂ hv ⟨rfl, rfl⟩ h1 h2 h3
    obtain ⟨rfl, hlt⟩ := rng_get hv
    obtain ⟨b2, b3⟩ := he k (by omega)
    refine ⟨_, rfl, evP_ok b2 ?_⟩
    cases hg : g k with
    | true => exact h1 _ h3 ⟨_, rfl, evP_ok (b3 hg) (h3 _ _ ⟨rfl, by rw [List.range_succ, List.filter_append, List.map_append, List.filter_cons_of_pos hg]; rfl⟩)⟩
    | false => exact h2 _ ⟨rfl, by rw [List.range_succ, List.filter_append, List.filter_cons_of_neg (by rw [hg]; decide), List.filter_nil, List.append_nil]⟩
  · rintro acc σ' ⟨rfl, rfl⟩ d hd
    rw [rng_len (by omega), show ((n : Int)).toNat = n from Int.toNat_natCast _]
    exact q d hd
theorem ne_nil {σ : Store} {a d : Addr} {m m' : Bool} {l : List Nat} (ha : σ a = some (.list m (l.map fun (j : Nat) => V.int j))) (hd : σ d = some (.list m' [])) : cmpV .ne (.ref a) (.ref d) σ = some !l.isEmpty := by
  have e1 := dat_list (n := 3) ha (datL_map (h := fun (j : Nat) => PyData.int j) fun _ _ => rfl)
  have e2 := dat_list (n := 3) hd (ds := []) rfl
  show (eqV σ (.ref a) (.ref d)).map _ = _
  rw [eqV_lists ha hd e1 e2]
  cases l with
  | nil => rfl
  | cons x l => rfl
/-- what the search comes to -/
structure Cover (n : Nat) (nb : Nat → List Nat) (M : Mt) (C T : List Nat) : Prop where
  nd : T.Nodup
  free : ∀ i, i < n → ¬ OnL M i → i ∈ C
  go : ∀ i ∈ C, ∀ j ∈ nb i, j ∈ T
  back : ∀ t ∈ T, ∃ i ∈ C, getM M t = some i
structure Srch (n : Nat) (nb : Nat → List Nat) (M : Mt) (L : Nat → Prop) (C T Lf : List Nat) : Prop where
  ndC : C.Nodup
  ndT : T.Nodup
  ltC : ∀ i ∈ C, i < n
  ltT : ∀ t ∈ T, t < n
  inC : ∀ i ∈ C, L i
  inF : ∀ i ∈ Lf, L i ∧ i < n
  free : ∀ i, i < n → ¬ OnL M i → i ∈ C ∨ i ∈ Lf
  go : ∀ i ∈ C, ∀ j ∈ nb i, j ∈ T
  back : ∀ t ∈ T, ∃ i, getM M t = some i ∧ (i ∈ C ∨ i ∈ Lf)
theorem mem_app1 {x a : Nat} {l : List Nat} : x ∈ l ++ [a] ↔ x ∈ l ∨ x = a := by rw [List.mem_append, List.mem_singleton]
theorem nodup_app1 {a : Nat} {l : List Nat} (h : l.Nodup) (ha : a ∉ l) : (l ++ [a]).Nodup := by
  rw [List.nodup_append]
  refine ⟨h, List.nodup_cons.mpr ⟨(fun h => nomatch h), List.nodup_nil⟩, fun x hx b hb => ?_⟩
  rw [List.mem_singleton.mp hb]; rintro rfl; exact ha hx
theorem apart_of_ok {nbl : List (List Nat)} {db : Addr} {ps : List Addr} {σ : Store} {da : Addr} {M : Mt} {Q : Post} {k : Nat} (hz : nbl.length ≤ 500) (hB : Bh σ db ps nbl) (hlt : ∀ i, ∀ j ∈ nbOf nbl i, j < nbl.length) (hnb : ∀ i, (nbOf nbl i).length ≤ nbl.length) (hP : Pair (n := nbl.length) (nb := nbOf nbl) nbl.length M) (ha : σ da = some (.di true (mV M)))
    (q : ∀ d C T σ', Ext σ σ' → σ d = none → σ' d = some (.list true (((List.range nbl.length).filter fun v => decide (v ∈ C) && !decide (v ∈ T)).map fun (j : Nat) => V.int j)) → Cover nbl.length (nbOf nbl) M C T → Q (.ref d) σ') : specAt P (k + 1) 40 [.ref db, .ref da] σ Q := by
  have hM := hP.mat
  obtain ⟨m, hb⟩ := hB.at_
  have hml := mat_len hM hlt
  obtain ⟨L, Sx, hcl, hfreeL⟩ := hP.cut
  refine spec_of (xs := f_apart_of) rfl rfl ?_
  refine st_asgE fun d2 hd2 => ?_
  have h2a : da ≠ d2 := by rintro rfl; rw [ha] at hd2; cases hd2
  have ha2 : (σ.set d2 (.di true [])) da = some (.di true (mV M)) := by rw [set_ne h2a]; exact ha
  refine st_forI (p := da) rfl ha2 (forW_of (fun j ρ' σ' => σ' = (σ.set d2 (.di true (sV ((M.take j).map (·.2))))).set da (.di false (mV M)) ∧ ρ' 0 = some (.ref db) ∧ ρ' 1 = some (.ref da) ∧ ρ' 2 = some (.ref d2)) (fun _ _ _ _ _ => trivial) ?_ ?_ ⟨rfl, rfl, rfl, rfl⟩)
  · rintro j v ρ' σ₁ K hv ⟨rfl, r0, r1, r2⟩ hn hx
    have hv' : ∃ p, M[j]? = some p ∧ v = .int p.1 := by
      unfold mV at hv
      rw [List.map_map, List.getElem?_map] at hv
      obtain ⟨p, hp, rfl⟩ := Option.map_eq_some_iff.mp hv
      exact ⟨p, hp, rfl⟩
    obtain ⟨p, hp, rfl⟩ := hv'
    have hgp := getM_of hM.keys (List.mem_of_getElem? hp)
    refine ⟨_, rfl, ?_⟩
    have hd2' : ((σ.set d2 (.di true (sV ((M.take j).map (·.2))))).set da (.di false (mV M))) d2 = some (.di true (sV ((M.take j).map (·.2)))) := by rw [set_ne (Ne.symm h2a)]; exact set_self
    refine st_setD (es := sV ((M.take j).map (·.2))) (x := p.2) (v := .bool true) rfl (ev_var r2) (ev_subD (m := false) (es := mV M) (d := da) set_self (by rw [look_mV, hgp]; rfl) (ev_var r1) rfl) hd2' ?_ (st_nil (hn _ _ ⟨?_, r0, r1, r2⟩))
    · unfold sV; rw [List.length_map, List.length_map, List.length_take]; omega
    · rw [put_sV (take_keys hM.vals hp)]
      have : (M.take j).map (·.2) ++ [p.2] = (M.take (j + 1)).map (·.2) := by rw [take_more hp, List.map_append]; rfl
      rw [this]
      funext b
      show (if b = d2 then _ else if b = da then _ else if b = d2 then _ else σ b) = if b = da then _ else if b = d2 then _ else σ b
      by_cases hb1 : b = d2
      · rw [if_pos hb1, if_neg (by rw [hb1]; exact Ne.symm h2a), if_pos hb1]
      · rw [if_neg hb1, if_neg hb1, if_neg hb1]
  · rintro ρ' σ₁ ⟨rfl, r0, r1, r2⟩
    refine ⟨set_self, ?_⟩
    have hlenM : (List.map (fun e => V.int e.1) (mV M)).length = M.length := by unfold mV; rw [List.length_map, List.length_map]
    rw [hlenM, List.take_length, set_set]
    have hback : (σ.set d2 (.di true (sV (M.map (·.2))))).set da (.di true (mV M)) = σ.set d2 (.di true (sV (M.map (·.2)))) := set_same (by rw [set_ne h2a]; exact ha)
    rw [hback]
    have x2 : Ext σ (σ.set d2 (.di true (sV (M.map (·.2))))) := Ext.new hd2
    have k2 : (σ.set d2 (.di true (sV (M.map (·.2))))) d2 = some (.di true (sV (M.map (·.2)))) := set_self
    have free2 : ∀ b, (σ.set d2 (.di true (sV (M.map (·.2))))) b = none → σ b = none := fun b h => by
      by_cases hb1 : b = d2
      · rw [hb1]; exact hd2
      · rw [set_ne hb1] at h; exact h
    generalize σ.set d2 (.di true (sV (M.map (·.2)))) = σ₂ at x2 k2 free2 ⊢
    have hb2 := x2 _ _ hb
    have ha2 := x2 _ _ ha
    have hB2 := hB.keep x2.keepL
    -- come, taken, left
    refine st_asgE fun d4 hd4 => ?_
    refine st_asgE fun d5 hd5 => ?_
    have h54 : d4 ≠ d5 := by rintro rfl; rw [set_self] at hd5; cases hd5
    have x5 : Ext σ₂ ((σ₂.set d4 (.di true [])).set d5 (.di true [])) := (Ext.new hd4).trans (Ext.new hd5)
    have lenE : ∀ {ρ : Loc} {σ' : Store}, ρ 0 = some (.ref db) → Ext σ₂ σ' → evP ρ σ' (.rng1 (.len (.var 0))) = some (.rng 0 (nbl.length : Int)) := fun {ρ} {σ'} h e => ev_rng1 (by
      have := ev_lenL (ρ := ρ) (σ := σ') (a := .var 0) (d := db) (l := ps.map .ref) (m := m) (e _ _ hb2) (by rw [List.length_map, hB.len]; omega) (ev_var h)
      rw [List.length_map, hB.len] at this; exact this)
    refine st_asgE (wp_compIfR (lenE r0 x5) (by omega) (fun v => !decide (v ∈ M.map (·.2))) (fun (v : Nat) => V.int v) (fun j hj => ⟨?_, fun _ => rfl⟩) fun d6 hd6 => ?_)
    · have := ev_ninI (ρ := Loc.set ((ρ'.set 4 (.ref d4)).set 5 (.ref d5)) 8 (.int j)) (a := .var 8) (b := .var 2) (x5 _ _ k2) rfl (ev_var r2)
      rw [look_sV] at this; exact this
    have x6 := x5.trans (Ext.new (o := .list true (((List.range nbl.length).filter fun v => !decide (v ∈ M.map (·.2))).map fun (v : Nat) => V.int v)) hd6)
    have h64 : d4 ≠ d6 := by rintro rfl; rw [set_ne h54, set_self] at hd6; cases hd6
    have h65 : d5 ≠ d6 := by rintro rfl; rw [set_self] at hd6; cases hd6
    have hfree : ∀ {b : Addr}, b = d4 ∨ b = d5 ∨ b = d6 → σ₂ b = none := fun {b} h => by
      cases hq : σ₂ b with
      | none => rfl
      | some o =>
        rcases h with rfl | rfl | rfl
        · rw [hd4] at hq; cases hq
        · have := (Ext.new (o := .di true []) hd4) _ _ hq; rw [hd5] at this; cases this
        · have := x5 _ _ hq; rw [hd6] at this; cases this
    have keep : ∀ {σ' : Store} {d : Addr} {o : O}, d = d4 ∨ d = d5 ∨ d = d6 → Ext σ₂ σ' → Ext σ₂ (σ'.set d o) := fun hd e b o h => by
      rw [set_ne (by rintro rfl; rw [hfree hd] at h; cases h)]; exact e _ _ h
    have unmatched : ∀ i, ¬ OnL M i ↔ i ∉ M.map (·.2) := fun i => by
      constructor
      · intro h hm
        obtain ⟨p, hp, rfl⟩ := List.mem_map.mp hm
        exact h ⟨p.1, getM_of hM.keys hp⟩
      · rintro h ⟨j, hj⟩
        exact h (List.mem_map.mpr ⟨_, getM_mem hj, rfl⟩)
    have S0 : Srch nbl.length (nbOf nbl) M L [] [] ((List.range nbl.length).filter fun v => !decide (v ∈ M.map (·.2))) := by
      refine ⟨List.nodup_nil, List.nodup_nil, (fun i h => nomatch h), (fun i h => nomatch h), (fun i h => nomatch h), fun i h => ?_, fun i h1 h2 => ?_, (fun i h => nomatch h), (fun i h => nomatch h)⟩
      · obtain ⟨h1, h2⟩ := List.mem_filter.mp h
        have h1 := List.mem_range.mp h1
        exact ⟨hfreeL i h1 ((unmatched i).mpr (of_decide_eq_false (not_of h2))), h1⟩
      · exact .inr (List.mem_filter.mpr ⟨List.mem_range.mpr h1, by rw [decide_eq_false ((unmatched i).mp h2)]; rfl⟩)
    have szC : ∀ {C : List Nat}, C.Nodup → (∀ i ∈ C, i < nbl.length) → C.length ≤ nbl.length := fun h1 h2 => by
      have := nodup_len h1 (m := List.range nbl.length) fun x hx => List.mem_range.mpr (h2 x hx)
      rw [List.length_range] at this; exact this
    have loop : ∀ (c : Nat) (C T Lf : List Nat) (ρ : Loc) (σ' : Store) (Q' : FPost), (nbl.length - C.length) * (nbl.length + 1) + Lf.length < c → c ≤ 1100000 - C.length → Lf.length ≤ 500 * (C.length + 1) → Srch nbl.length (nbOf nbl) M L C T Lf → Ext σ₂ σ' → σ' d4 = some (.di true (sV C)) → σ' d5 = some (.di true (sV T)) → σ' d6 = some (.list true (Lf.map fun (j : Nat) => V.int j)) →
        ρ 0 = some (.ref db) → ρ 1 = some (.ref da) → ρ 4 = some (.ref d4) → ρ 5 = some (.ref d5) → ρ 6 = some (.ref d6) →
        (∀ ρ C T σ', Srch nbl.length (nbOf nbl) M L C T [] → Ext σ₂ σ' → σ' d4 = some (.di true (sV C)) → σ' d5 = some (.di true (sV T)) → ρ 0 = some (.ref db) → ρ 4 = some (.ref d4) → ρ 5 = some (.ref d5) → Q' .next ρ σ') →
        whileW (fun ρ σ Q => wpE (specAt P k) (.cmp .ne (.var 6) (.list [])) ρ σ (asBool Q)) (fun ρ σ Q => wpSs (specAt P k) [.asg (.one 7) (.pop (.var 6)), .ite (.cmp .notin (.var 7) (.var 4)) [.setItem (.var 4) (.var 7) (.cst (.bool true)), .for (.one 3) (.sub (.var 0) (.var 7)) [.setItem (.var 5) (.var 3) (.cst (.bool true)), .ite (.cmp .isin (.var 3) (.var 1)) [.expr (.append (.var 6) (.sub (.var 1) (.var 3)))] []]] []] ρ σ Q) c ρ σ' Q' := by
      intro c
      induction c with
      | zero => intro C T Lf ρ σ' Q' h; exact absurd h (Nat.not_lt_zero _)
      | succ c ih =>
        intro C T Lf ρ σ' Q' hfuel hcb hLl hS e4 hc4 hc5 hc6 w0 w1 w4 w5 w6 hQ
        refine ⟨.ref d6, w6, fun dz hdz => ⟨!Lf.isEmpty, ?_, ?_⟩⟩
        · exact ne_nil (Ext.new hdz _ _ hc6) set_self
        have xz := Ext.new (o := .list true []) hdz
        have e4 := e4.trans xz
        have hc4 := xz _ _ hc4
        have hc5 := xz _ _ hc5
        have hc6 := xz _ _ hc6
        generalize σ'.set dz (.list true []) = σ'' at e4 hc4 hc5 hc6 ⊢
        rcases List.eq_nil_or_concat Lf with rfl | ⟨Lf', x, rfl⟩
        · exact hQ ρ C T σ'' hS e4 hc4 hc5 w0 w4 w5
        · rw [List.concat_eq_append] at hS hfuel hc6 hLl ⊢
          have hne : (Lf' ++ [x]).isEmpty = false := by cases Lf' <;> rfl
          rw [hne]
          show wpSs _ _ _ _ _
          have hlen1 : (Lf' ++ [x]).length = Lf'.length + 1 := by rw [List.length_append]; rfl
          rw [hlen1] at hfuel hLl
          have hClen := szC hS.ndC hS.ltC
          refine st_asgE ⟨.ref d6, w6, d6, Lf'.map fun (j : Nat) => V.int j, .int x, rfl, by rw [hc6, List.map_append]; rfl, by rw [List.length_map]; have : 500 * (C.length + 1) ≤ 500 * 501 := Nat.mul_le_mul_left _ (by omega); omega, ?_⟩
          have e5 := keep (d := d6) (o := .list true (Lf'.map fun (j : Nat) => V.int j)) (.inr (.inr rfl)) e4
          have f4 : (σ''.set d6 (.list true (Lf'.map fun (j : Nat) => V.int j))) d4 = some (.di true (sV C)) := by rw [set_ne h64]; exact hc4
          have f5 : (σ''.set d6 (.list true (Lf'.map fun (j : Nat) => V.int j))) d5 = some (.di true (sV T)) := by rw [set_ne h65]; exact hc5
          have f6 : (σ''.set d6 (.list true (Lf'.map fun (j : Nat) => V.int j))) d6 = some (.list true (Lf'.map fun (j : Nat) => V.int j)) := set_self
          generalize σ''.set d6 (.list true (Lf'.map fun (j : Nat) => V.int j)) = σ₃ at e5 f4 f5 f6 ⊢
          obtain ⟨hxL, hxn⟩ := hS.inF x (mem_app1.mpr (.inr rfl))
          have hcnd := ev_ninI (ρ := ρ.set 7 (.int x)) (a := .var 7) (b := .var 4) f4 rfl (ev_var w4)
          rw [look_sV] at hcnd
          by_cases hxC : x ∈ C
          · rw [decide_eq_true hxC] at hcnd
            refine st_no hcnd (st_nil (ih C T Lf' _ σ₃ Q' (by omega) (by omega) (by omega) ⟨hS.ndC, hS.ndT, hS.ltC, hS.ltT, hS.inC, fun i hi => hS.inF i (mem_app1.mpr (.inl hi)), fun i h1 h2 => ?_, hS.go, fun t ht => ?_⟩ e5 f4 f5 f6 w0 w1 w4 w5 w6 hQ))
            · rcases hS.free i h1 h2 with h | h
              · exact .inl h
              · rcases mem_app1.mp h with h | h
                · exact .inr h
                · rw [h]; exact .inl hxC
            · obtain ⟨i, h1, h2⟩ := hS.back t ht
              refine ⟨i, h1, ?_⟩
              rcases h2 with h | h
              · exact .inl h
              · rcases mem_app1.mp h with h | h
                · exact .inr h
                · rw [h]; exact .inl hxC
          · rw [decide_eq_false hxC] at hcnd
            refine st_yes hcnd (st_setD (es := sV C) (x := x) (v := .bool true) rfl (ev_var w4) rfl f4 (by unfold sV; rw [List.length_map]; omega) ?_)
            rw [put_sV hxC]
            have e6 := keep (d := d4) (o := .di true (sV (C ++ [x]))) (.inl rfl) e5
            have g4 : (σ₃.set d4 (.di true (sV (C ++ [x])))) d4 = some (.di true (sV (C ++ [x]))) := set_self
            have g5 : (σ₃.set d4 (.di true (sV (C ++ [x])))) d5 = some (.di true (sV T)) := by rw [set_ne (Ne.symm h54)]; exact f5
            have g6 : (σ₃.set d4 (.di true (sV (C ++ [x])))) d6 = some (.list true (Lf'.map fun (j : Nat) => V.int j)) := by rw [set_ne (Ne.symm h64)]; exact f6
            generalize σ₃.set d4 (.di true (sV (C ++ [x]))) = σ₄ at e6 g4 g5 g6 ⊢
            obtain ⟨p, hp⟩ : ∃ p, ps[x]? = some p := ⟨_, List.getElem?_eq_getElem (by rw [hB.len]; exact hxn)⟩
            have hnx : nbl[x]? = some (nbOf nbl x) := by unfold nbOf; rw [List.getElem?_eq_getElem hxn]; rfl
            obtain ⟨m', hrow⟩ := hB2.row x p (nbOf nbl x) hp hnx
            have hC1n : (C ++ [x]).Nodup := nodup_app1 hS.ndC hxC
            have hC1l : ∀ i ∈ C ++ [x], i < nbl.length := fun i hi => by
              rcases mem_app1.mp hi with h | h
              · exact hS.ltC i h
              · rw [h]; exact hxn
            have hC1len := szC hC1n hC1l
            rw [List.length_append] at hC1len
            have hC1len : C.length + 1 ≤ nbl.length := hC1len
            refine st_forL (p := p) (ev_list (e6 _ _ hb2) (Int.natCast_nonneg x) (by rw [Int.toNat_natCast, List.getElem?_map, hp]; rfl) (ev_var w0) rfl) (e6 _ _ hrow) (forW_of (fun j ρ'' σ₅ => Ext σ₂ σ₅ ∧ σ₅ d4 = some (.di true (sV (C ++ [x]))) ∧ ρ'' 0 = some (.ref db) ∧ ρ'' 1 = some (.ref da) ∧ ρ'' 4 = some (.ref d4) ∧ ρ'' 5 = some (.ref d5) ∧ ρ'' 6 = some (.ref d6) ∧
                ∃ T' Lg, σ₅ d5 = some (.di true (sV T')) ∧ σ₅ d6 = some (.list true (Lg.map fun (j : Nat) => V.int j)) ∧ T'.Nodup ∧ (∀ t ∈ T', t < nbl.length) ∧ (∀ t ∈ T, t ∈ T') ∧ (∀ t ∈ (nbOf nbl x).take j, t ∈ T') ∧ Lg.length ≤ Lf'.length + j ∧ (∀ i ∈ Lg, L i ∧ i < nbl.length) ∧ (∀ i ∈ Lf', i ∈ Lg) ∧ ∀ t ∈ T', ∃ i, getM M t = some i ∧ (i ∈ C ++ [x] ∨ i ∈ Lg)) (fun _ _ _ _ h => ⟨_, h.1 _ _ hrow⟩) ?_ ?_ ⟨e6, g4, w0, w1, w4, w5, w6, T, Lf', g5, g6, hS.ndT, hS.ltT, fun t h => h, (fun t h => nomatch h), Nat.le_refl _, fun i hi => hS.inF i (mem_app1.mpr (.inl hi)), fun i h => h, fun t ht => ?_⟩)
            · rintro j v ρ'' σ₅ K hv ⟨e7, u4, v0, v1, v4, v5, v6, T', Lg, u5, u6, t1, t2, t3, t4, t5, t6, t7, t8⟩ hn hx
              rw [List.getElem?_map] at hv
              obtain ⟨y, hy, rfl⟩ := Option.map_eq_some_iff.mp hv
              have hyn := List.mem_of_getElem? hy
              have hyl := hlt x y hyn
              obtain ⟨i, hiL, hgi⟩ := hcl.back y (hcl.go x hxL y hyn)
              have hin := (hM.edge _ _ hgi).2
              refine ⟨_, rfl, ?_⟩
              obtain ⟨T'', hT'', hTs, hTn, hTl, hTm⟩ : ∃ T'', put (sV T') (y : Int) (.bool true) = sV T'' ∧ (∀ t ∈ T', t ∈ T'') ∧ T''.Nodup ∧ (∀ t ∈ T'', t < nbl.length) ∧ ∀ t, t ∈ T'' → t ∈ T' ∨ t = y := by
                by_cases hyT : y ∈ T'
                · exact ⟨T', put_sV' hyT, fun t h => h, t1, t2, fun t h => .inl h⟩
                · exact ⟨T' ++ [y], put_sV hyT, fun t h => mem_app1.mpr (.inl h), nodup_app1 t1 hyT, fun t h => by
                    rcases mem_app1.mp h with h | h
                    · exact t2 t h
                    · rw [h]; exact hyl, fun t h => mem_app1.mp h⟩
              have hyin : y ∈ T'' := by
                have h1 : (look (put (sV T') (y : Int) (.bool true)) (y : Int)).isSome = true := by
                  by_cases hyT : y ∈ T'
                  · rw [put_sV' hyT, look_sV]; exact decide_eq_true hyT
                  · rw [put_sV hyT, look_sV]; exact decide_eq_true (mem_app1.mpr (.inr rfl))
                rw [hT'', look_sV] at h1; exact of_decide_eq_true h1
              refine st_setD (es := sV T') (x := y) (v := .bool true) rfl (ev_var v5) rfl u5 (by unfold sV; rw [List.length_map]; have := szC t1 t2; omega) ?_
              rw [hT'']
              have e8 := keep (d := d5) (o := .di true (sV T'')) (.inr (.inl rfl)) e7
              have y4 : (σ₅.set d5 (.di true (sV T''))) d4 = some (.di true (sV (C ++ [x]))) := by rw [set_ne h54]; exact u4
              have y5 : (σ₅.set d5 (.di true (sV T''))) d5 = some (.di true (sV T'')) := set_self
              have y6 : (σ₅.set d5 (.di true (sV T''))) d6 = some (.list true (Lg.map fun (j : Nat) => V.int j)) := by rw [set_ne (Ne.symm h65)]; exact u6
              generalize σ₅.set d5 (.di true (sV T'')) = σ₆ at e8 y4 y5 y6 ⊢
              have hci := ev_inI (ρ := ρ''.set 3 (.int y)) (a := .var 3) (b := .var 1) (e8 _ _ ha2) rfl (ev_var v1)
              rw [look_mV, hgi] at hci
              have hjl := (List.getElem?_eq_some_iff.mp hy).1
              have hnx' := hnb x
              refine st_yes hci (st_app (o := 6) (p := d6) (v := .int i) v6 y6 (ev_subD (e8 _ _ ha2) (by rw [look_mV, hgi]; rfl) (ev_var v1) rfl) (by rw [List.length_map]; have : 500 * (C.length + 1) ≤ 500 * 501 := Nat.mul_le_mul_left _ (by omega); omega) (st_nil (hn _ _ ⟨?_, ?_, v0, v1, v4, v5, v6, T'', Lg ++ [i], ?_, ?_, hTn, hTl, fun t h => hTs t (t3 t h), fun t h => ?_, ?_, fun i' h => ?_, fun i' h => mem_app1.mpr (.inl (t7 i' h)), fun t h => ?_⟩)))
              · exact keep (.inr (.inr rfl)) e8
              · rw [set_ne h64]; exact y4
              · rw [set_ne h65]; exact y5
              · rw [set_self, List.map_append]; rfl
              · rw [take_more hy] at h
                rcases mem_app1.mp h with h | h
                · exact hTs t (t4 t h)
                · rw [h]; exact hyin
              · rw [List.length_append]; show Lg.length + 1 ≤ _; omega
              · rcases mem_app1.mp h with h | h
                · exact t6 i' h
                · rw [h]; exact ⟨hiL, hin⟩
              · rcases hTm t h with h | h
                · obtain ⟨i', a1, a2⟩ := t8 t h
                  exact ⟨i', a1, a2.imp id fun z => mem_app1.mpr (.inl z)⟩
                · rw [h]; exact ⟨i, hgi, .inr (mem_app1.mpr (.inr rfl))⟩
            · rintro ρ'' σ₅ ⟨e7, u4, v0, v1, v4, v5, v6, T', Lg, u5, u6, t1, t2, t3, t4, t5, t6, t7, t8⟩
              rw [List.length_map] at t4 t5
              rw [List.take_length] at t4
              have hnx' := hnb x
              have hm1 : (nbl.length - C.length) * (nbl.length + 1) = (nbl.length - (C.length + 1)) * (nbl.length + 1) + (nbl.length + 1) := by
                have : nbl.length - C.length = (nbl.length - (C.length + 1)) + 1 := by omega
                rw [this, Nat.succ_mul]
              have hC1 : (C ++ [x]).length = C.length + 1 := by rw [List.length_append]; rfl
              refine st_nil (ih (C ++ [x]) T' Lg ρ'' σ₅ Q' (by rw [hC1]; omega) (by rw [hC1]; omega) (by rw [hC1]; omega) ⟨hC1n, t1, hC1l, t2, fun i hi => ?_, t6, fun i h1 h2 => ?_, fun i hi j hj => ?_, t8⟩ e7 u4 u5 u6 v0 v1 v4 v5 v6 hQ)
              · rcases mem_app1.mp hi with h | h
                · exact hS.inC i h
                · rw [h]; exact hxL
              · rcases hS.free i h1 h2 with h | h
                · exact .inl (mem_app1.mpr (.inl h))
                · rcases mem_app1.mp h with h | h
                  · exact .inr (t7 i h)
                  · exact .inl (mem_app1.mpr (.inr h))
              · rcases mem_app1.mp hi with h | h
                · exact t3 j (hS.go i h j hj)
                · rw [h] at hj; exact t4 j hj
            · obtain ⟨i, a1, a2⟩ := hS.back t ht
              refine ⟨i, a1, ?_⟩
              rcases a2 with h | h
              · exact .inl (mem_app1.mpr (.inl h))
              · rcases mem_app1.mp h with h | h
                · exact .inr h
                · exact .inl (mem_app1.mpr (.inr h))
    have hfl : ((List.range nbl.length).filter fun v => !decide (v ∈ M.map (·.2))).length ≤ nbl.length := by
      refine Nat.le_trans (List.length_filter_le _ _) ?_
      rw [List.length_range]; exact Nat.le_refl _
    have hsq : nbl.length * (nbl.length + 1) ≤ 500 * 501 := Nat.mul_le_mul hz (by omega)
    refine st_while (n := nbl.length * (nbl.length + 1) + nbl.length + 1) (loop _ [] [] _ _ _ _ (by show (nbl.length - 0) * _ + _ < _; rw [Nat.sub_zero]; omega) (by show _ ≤ 1100000 - 0; omega) (by show _ ≤ 500 * (0 + 1); omega) S0 x6 (by rw [set_ne h64, set_ne h54]; exact set_self) (by rw [set_ne h65]; exact set_self) set_self r0 r1 rfl rfl rfl fun ρ₁ C T σ₇ hS e7 c4 c5 u0 u4 u5 => ?_)
    refine st_retE (wp_compIfR (lenE u0 e7) (by omega) (fun v => decide (v ∈ C) && !decide (v ∈ T)) (fun (v : Nat) => V.int v) (fun j hj => ⟨?_, fun _ => rfl⟩) fun d hd => ?_)
    · refine ev_and ?_ fun _ => ?_
      · have := ev_inI (ρ := ρ₁.set 8 (.int j)) (a := .var 8) (b := .var 4) c4 rfl (ev_var u4)
        rw [look_sV] at this; exact this
      · have := ev_ninI (ρ := ρ₁.set 8 (.int j)) (a := .var 8) (b := .var 5) c5 rfl (ev_var u5)
        rw [look_sV] at this; exact this
    · refine q d C T _ ((x2.trans e7).trans (Ext.new hd)) ?_ set_self ⟨hS.ndT, fun i h1 h2 => (hS.free i h1 h2).resolve_right (fun h => nomatch h), hS.go, fun t ht => ?_⟩
      · cases hq : σ d with
        | none => rfl
        | some o => rw [e7 _ _ (x2 _ _ hq)] at hd; cases hd
      · obtain ⟨i, a1, a2⟩ := hS.back t ht
        exact ⟨i, a2.resolve_right (fun h => nomatch h), a1⟩
end Mine

namespace Mine
open PySem

inductive At (M : Mt) (h : Nat) : Nat → Nat → Prop where
  | zero : At M h 0 h
  | succ {k u v} : getM M v = some u → At M h k u → At M h (k + 1) v
section
variable {n : Nat} {nb : Nat → List Nat} {M : Mt}
theorem At.same {h k v w : Nat} (hM : Mat n nb M) (a : At M h k v) : At M h k w → v = w := by
  induction a generalizing w with
  | zero => intro b; cases b; rfl
  | succ e _ ih => intro b; cases b with | succ e' b => rw [ih b] at e; exact hM.uniq _ _ _ e e'
theorem At.uniq {h h' k l v : Nat} (f : getM M h = none) (f' : getM M h' = none) (a : At M h k v) : At M h' l v → h = h' ∧ k = l := by
  induction a generalizing l with
  | zero => intro b; cases b with
    | zero => exact ⟨rfl, rfl⟩
    | succ e _ => rw [f] at e; cases e
  | succ e _ ih => intro b; cases b with
    | zero => rw [f'] at e; cases e
    | succ e' b => rw [e] at e'; cases e'; obtain ⟨h1, h2⟩ := ih b; exact ⟨h1, by rw [h2]⟩
theorem At.reach {h l w : Nat} (hM : Mat n nb M) (tr : ∀ a b c, b ∈ nb a → c ∈ nb b → c ∈ nb a) (a : At M h l w) : ∀ {k v}, k < l → At M h k v → w ∈ nb v := by
  induction a with
  | zero => intro k v hk; exact absurd hk (Nat.not_lt_zero _)
  | @succ l u w e a ih =>
    intro k v hk b
    have he := (hM.edge _ _ e).1
    rcases Nat.lt_succ_iff_lt_or_eq.mp hk with hk | hk
    · exact tr _ _ _ (ih hk b) he
    · subst hk; rw [b.same hM a]; exact he
theorem At.lt {h k v : Nat} (hM : Mat n nb M) (hlt : ∀ i, ∀ j ∈ nb i, j < n) (hh : h < n) (a : At M h k v) : v < n := by
  cases a with
  | zero => exact hh
  | succ e _ => exact hlt _ _ (hM.edge _ _ e).1
theorem IsRow.at {h : Nat} {r : List Nat} (R : IsRow M h r) : ∀ {k v}, r[k]? = some v → At M h k v
  | 0, v, e => by rw [R.head] at e; cases e; exact .zero
  | k + 1, v, e => by
    obtain ⟨u, hu⟩ : ∃ u, r[k]? = some u := ⟨_, List.getElem?_eq_getElem (Nat.lt_of_succ_lt (List.getElem?_eq_some_iff.mp e).1)⟩
    exact .succ (R.step k u v hu e) (R.at hu)
theorem flat_nodup {α : Type} : ∀ {L : List (List α)}, (∀ r ∈ L, r.Nodup) → (∀ (i j : Nat) r s v, L[i]? = some r → L[j]? = some s → v ∈ r → v ∈ s → i = j) → L.flatten.Nodup
  | [], _, _ => List.nodup_nil
  | r :: L, h1, h2 => by
    rw [List.flatten_cons, List.nodup_append]
    refine ⟨h1 r (.head _), flat_nodup (fun s hs => h1 s (.tail _ hs)) fun i j s t v a b c d => Nat.succ.inj (h2 (i + 1) (j + 1) s t v a b c d), fun a ha b hb => ?_⟩
    rintro rfl
    obtain ⟨s, hs, hv⟩ := List.mem_flatten.mp hb
    obtain ⟨k, hk⟩ := List.getElem?_of_mem hs
    exact absurd (h2 0 (k + 1) r s a rfl hk ha hv) (Nat.succ_ne_zero k).symm
theorem flt_add {α : Type} (p : α → Bool) : ∀ l : List α, (l.filter p).length + (l.filter fun x => !p x).length = l.length
  | [] => rfl
  | a :: l => by
    have ih := flt_add p l
    cases h : p a with
    | true => rw [List.filter_cons_of_pos h, List.filter_cons_of_neg (by rw [h]; decide), List.length_cons, List.length_cons]; omega
    | false => rw [List.filter_cons_of_neg (by rw [h]; decide), List.filter_cons_of_pos (by rw [h]; rfl), List.length_cons, List.length_cons]; omega
theorem flt_or {α : Type} (c t : α → Bool) : ∀ l : List α, (l.filter fun v => !(c v && !t v)).length ≤ (l.filter fun v => !c v).length + (l.filter t).length
  | [] => Nat.le_refl _
  | a :: l => by
    have ih := flt_or c t l
    cases hc : c a with
    | false =>
      rw [List.filter_cons_of_pos (by rw [hc]; rfl), List.filter_cons_of_pos (p := fun v => !c v) (by rw [hc]; rfl), List.length_cons, List.length_cons]
      have : (l.filter t).length ≤ ((a :: l).filter t).length := by
        cases ht : t a with
        | true => rw [List.filter_cons_of_pos ht, List.length_cons]; omega
        | false => rw [List.filter_cons_of_neg (by rw [ht]; decide)]; exact Nat.le_refl _
      omega
    | true =>
      rw [List.filter_cons_of_neg (p := fun v => !c v) (by rw [hc]; decide)]
      cases ht : t a with
      | true =>
        rw [List.filter_cons_of_pos (by rw [hc, ht]; rfl), List.filter_cons_of_pos (p := t) ht, List.length_cons, List.length_cons]; omega
      | false =>
        rw [List.filter_cons_of_neg (by rw [hc, ht]; decide), List.filter_cons_of_neg (p := t) (by rw [ht]; decide)]; exact ih
theorem nodup_filter_range {n : Nat} {p : Nat → Bool} : ((List.range n).filter p).Nodup := List.Pairwise.filter _ List.nodup_range
/-- what is told of a plan -/
structure PlanOK (n : Nat) (nb : Nat → List Nat) (rows : List (List Nat)) (A : List Nat) : Prop where
  some_ : ∀ r ∈ rows, r ≠ []
  step : ∀ r ∈ rows, ∀ (k : Nat) a b, r[k]? = some a → r[k + 1]? = some b → b ∈ nb a
  perm : rows.flatten.Perm (List.range n)
  first : ∀ (i j : Nat) r s a b, i < j → rows[i]? = some r → rows[j]? = some s → r[0]? = some a → s[0]? = some b → a < b
  same : rows.length = A.length
  up : ∀ (i j : Nat) a b, i < j → A[i]? = some a → A[j]? = some b → a < b
  lt : ∀ a ∈ A, a < n
  apart : ∀ a ∈ A, ∀ b ∈ A, b ∉ nb a
theorem filter_up {n : Nat} {p : Nat → Bool} : ∀ (i j : Nat) a b, i < j → ((List.range n).filter p)[i]? = some a → ((List.range n).filter p)[j]? = some b → a < b := by
  have h : ((List.range n).filter p).Pairwise (· < ·) := List.Pairwise.filter _ List.pairwise_lt_range
  intro i j a b hij ha hb
  obtain ⟨h1, e1⟩ := List.getElem?_eq_some_iff.mp ha
  obtain ⟨h2, e2⟩ := List.getElem?_eq_some_iff.mp hb
  rw [← e1, ← e2]
  exact List.pairwise_iff_getElem.mp h i j h1 h2 hij
theorem plan_math {rk : Nat → Nat} {rows : List (List Nat)} {C T : List Nat} (hM : Mat n nb M) (hlt : ∀ i, ∀ j ∈ nb i, j < n) (hrk : ∀ i, ∀ j ∈ nb i, rk i < rk j) (tr : ∀ a b c, b ∈ nb a → c ∈ nb b → c ∈ nb a)
    (hl : rows.length = (headsOf M n).length) (hr : ∀ (i : Nat) r h, rows[i]? = some r → (headsOf M n)[i]? = some h → IsRow M h r) (hC : Cover n nb M C T) : PlanOK n nb rows ((List.range n).filter fun v => decide (v ∈ C) && !decide (v ∈ T)) := by
  have hh : ∀ {i h}, (headsOf M n)[i]? = some h → getM M h = none ∧ h < n := fun e => by
    obtain ⟨h1, h2⟩ := List.mem_filter.mp (List.mem_of_getElem? e)
    exact ⟨Option.isNone_iff_eq_none.mp h2, List.mem_range.mp h1⟩
  have hidx : ∀ {i : Nat} {r : List Nat}, rows[i]? = some r → ∃ h, (headsOf M n)[i]? = some h ∧ IsRow M h r := fun e => by
    have hi := (List.getElem?_eq_some_iff.mp e).1
    rw [hl] at hi
    exact ⟨_, List.getElem?_eq_getElem hi, hr _ _ _ e (List.getElem?_eq_getElem hi)⟩
  have hmem : ∀ r ∈ rows, ∃ (i : Nat) (h : Nat), rows[i]? = some r ∧ (headsOf M n)[i]? = some h ∧ IsRow M h r := fun r hr' => by
    obtain ⟨i, hi⟩ := List.getElem?_of_mem hr'
    obtain ⟨h, h1, h2⟩ := hidx hi
    exact ⟨i, h, hi, h1, h2⟩
  have hnd : (headsOf M n).Nodup := nodup_filter_range
  -- every number is in a row
  have cov : ∀ c v, rk v = c → v < n → ∃ r ∈ rows, v ∈ r := by
    intro c
    induction c using Nat.strongRecOn with
    | ind c ih =>
      intro v hc hv
      cases hg : getM M v with
      | none =>
        have : v ∈ headsOf M n := List.mem_filter.mpr ⟨List.mem_range.mpr hv, by rw [hg]; rfl⟩
        obtain ⟨i, hi⟩ := List.getElem?_of_mem this
        have hil := (List.getElem?_eq_some_iff.mp hi).1
        rw [← hl] at hil
        have R := hr i _ v (List.getElem?_eq_getElem hil) hi
        exact ⟨_, List.getElem_mem hil, List.mem_of_getElem? R.head⟩
      | some u =>
        obtain ⟨he, hu⟩ := hM.edge _ _ hg
        have := hrk u v he
        obtain ⟨r, hr', hur⟩ := ih (rk u) (by omega) u rfl hu
        obtain ⟨i, h, h1, h2, R⟩ := hmem r hr'
        obtain ⟨k, hk⟩ := List.getElem?_of_mem hur
        have hkl := (List.getElem?_eq_some_iff.mp hk).1
        by_cases hk1 : k + 1 < r.length
        · have e := List.getElem?_eq_getElem hk1
          have := R.step k u _ hk e
          have hvw := hM.uniq _ _ _ hg this
          exact ⟨r, hr', by rw [hvw]; exact List.getElem_mem hk1⟩
        · have : k = r.length - 1 := by omega
          rw [this] at hk
          exact absurd hg (R.last u hk v)
  have bound : ∀ r ∈ rows, ∀ v ∈ r, v < n := fun r hr' v hv => by
    obtain ⟨i, h, h1, h2, R⟩ := hmem r hr'
    obtain ⟨k, hk⟩ := List.getElem?_of_mem hv
    exact (R.at hk).lt hM hlt (hh h2).2
  have nd1 : ∀ r ∈ rows, r.Nodup := fun r hr' => by
    obtain ⟨i, h, h1, h2, R⟩ := hmem r hr'
    exact nodup_of fun a b x ha hb => ((R.at ha).uniq (hh h2).1 (hh h2).1 (R.at hb)).2
  have nd2 : rows.flatten.Nodup := flat_nodup nd1 fun i j r s v hi hj hv hw => by
    obtain ⟨h, h1, R⟩ := hidx hi
    obtain ⟨h', h1', R'⟩ := hidx hj
    obtain ⟨k, hk⟩ := List.getElem?_of_mem hv
    obtain ⟨l, hl'⟩ := List.getElem?_of_mem hw
    have := ((R.at hk).uniq (hh h1).1 (hh h1').1 (R'.at hl')).1
    rw [this] at h1
    exact nodup_at hnd h1 h1'
  refine ⟨fun r hr' e => ?_, fun r hr' k a b ha hb => ?_, ?_, fun i j r s a b hij hi hj ha hb => ?_, ?_, filter_up, fun a ha => List.mem_range.mp (List.mem_filter.mp ha).1, fun a ha b hb hab => ?_⟩
  · obtain ⟨i, h, h1, h2, R⟩ := hmem r hr'
    have := R.head; rw [e] at this; cases this
  · obtain ⟨i, h, h1, h2, R⟩ := hmem r hr'
    exact (hM.edge _ _ (R.step k a b ha hb)).1
  · refine (List.perm_ext_iff_of_nodup nd2 List.nodup_range).mpr fun v => ⟨fun h => ?_, fun h => ?_⟩
    · obtain ⟨r, hr', hv⟩ := List.mem_flatten.mp h
      exact List.mem_range.mpr (bound r hr' v hv)
    · obtain ⟨r, hr', hv⟩ := cov _ v rfl (List.mem_range.mp h)
      exact List.mem_flatten.mpr ⟨r, hr', hv⟩
  · obtain ⟨h, h1, R⟩ := hidx hi
    obtain ⟨h', h1', R'⟩ := hidx hj
    rw [R.head] at ha; cases ha
    rw [R'.head] at hb; cases hb
    exact filter_up i j a b hij h1 h1'
  · rw [hl]
    refine Nat.le_antisymm ?_ ?_
    · -- as many apart as rows
      have a1 := flt_add (fun v => decide (v ∈ C) && !decide (v ∈ T)) (List.range n)
      rw [List.length_range] at a1
      have a2 := flt_or (fun v => decide (v ∈ C)) (fun v => decide (v ∈ T)) (List.range n)
      have a3 := flt_add (fun p : Nat × Nat => decide (p.2 ∈ C)) M
      have a4 : ((List.range n).filter fun v => !decide (v ∈ C)).length ≤ (M.filter fun p => !decide (p.2 ∈ C)).length := by
        rw [← List.length_map (f := fun p : Nat × Nat => p.2)]
        refine nodup_len nodup_filter_range fun v hv => ?_
        obtain ⟨h1, h2⟩ := List.mem_filter.mp hv
        have hvC : v ∉ C := of_decide_eq_false (not_of h2)
        have : OnL M v := Classical.byContradiction fun hno => hvC (hC.free v (List.mem_range.mp h1) hno)
        obtain ⟨j, hj⟩ := this
        exact List.mem_map.mpr ⟨(j, v), List.mem_filter.mpr ⟨getM_mem hj, by rw [decide_eq_false hvC]; rfl⟩, rfl⟩
      have a5 : ((List.range n).filter fun v => decide (v ∈ T)).length ≤ (M.filter fun p => decide (p.2 ∈ C)).length := by
        rw [← List.length_map (f := fun p : Nat × Nat => p.1)]
        refine nodup_len nodup_filter_range fun v hv => ?_
        obtain ⟨i, h1, h2⟩ := hC.back v (of_decide_eq_true (List.mem_filter.mp hv).2)
        exact List.mem_map.mpr ⟨(v, i), List.mem_filter.mpr ⟨getM_mem h2, decide_eq_true h1⟩, rfl⟩
      have a6 := flt_add (fun v => (getM M v).isNone) (List.range n)
      rw [List.length_range] at a6
      have a7 : M.length ≤ ((List.range n).filter fun v => !(getM M v).isNone).length := by
        rw [← List.length_map (f := fun p : Nat × Nat => p.1)]
        refine nodup_len hM.keys fun v hv => ?_
        obtain ⟨p, hp, rfl⟩ := List.mem_map.mp hv
        have g := getM_of hM.keys hp
        exact List.mem_filter.mpr ⟨List.mem_range.mpr (hlt _ _ (hM.edge _ _ g).1), by rw [g]; rfl⟩
      show ((List.range n).filter fun v => (getM M v).isNone).length ≤ _
      omega
    · -- no two of them in one row
      have root : ∀ v : Nat, ∃ h, v < n → ∃ k, At M h k v ∧ h ∈ headsOf M n := fun v => by
        by_cases hv : v < n
        · obtain ⟨r, hr', hvr⟩ := cov _ v rfl hv
          obtain ⟨i, h, h1, h2, R⟩ := hmem r hr'
          obtain ⟨k, hk⟩ := List.getElem?_of_mem hvr
          exact ⟨h, fun _ => ⟨k, R.at hk, List.mem_of_getElem? h2⟩⟩
        · exact ⟨0, fun h => absurd h hv⟩
      let f := fun v => Classical.choose (root v)
      have hf : ∀ v, v < n → ∃ k, At M (f v) k v ∧ f v ∈ headsOf M n := fun v => Classical.choose_spec (root v)
      rw [← List.length_map (f := f)]
      refine nodup_len (nodup_of fun i j x hi hj => ?_) fun x hx => ?_
      · rw [List.getElem?_map] at hi hj
        obtain ⟨v, hv, rfl⟩ := Option.map_eq_some_iff.mp hi
        obtain ⟨w, hw, e⟩ := Option.map_eq_some_iff.mp hj
        have key : ∀ {v w}, v ∈ (List.range n).filter (fun v => decide (v ∈ C) && !decide (v ∈ T)) → w ∈ (List.range n).filter (fun v => decide (v ∈ C) && !decide (v ∈ T)) → w ∉ nb v := fun hv hw hvw => by
          have h1 := Bool.and_eq_true_iff.mp (List.mem_filter.mp hv).2
          have h2 := Bool.and_eq_true_iff.mp (List.mem_filter.mp hw).2
          exact of_decide_eq_false (not_of h2.2) (hC.go _ (of_decide_eq_true h1.1) _ hvw)
        have hv' := List.mem_of_getElem? hv
        have hw' := List.mem_of_getElem? hw
        obtain ⟨k, a1, _⟩ := hf v (List.mem_range.mp (List.mem_filter.mp hv').1)
        obtain ⟨l, b1, _⟩ := hf w (List.mem_range.mp (List.mem_filter.mp hw').1)
        rw [e] at b1
        have hvw : v = w := by
          rcases Nat.lt_trichotomy k l with h | h | h
          · exact absurd (b1.reach hM tr h a1) (key hv' hw')
          · subst h; exact a1.same hM b1
          · exact absurd (a1.reach hM tr h b1) (key hw' hv')
        rw [← hvw] at hw
        exact nodup_at nodup_filter_range hv hw
      · obtain ⟨v, hv, rfl⟩ := List.mem_map.mp hx
        exact (hf v (List.mem_range.mp (List.mem_filter.mp hv).1)).choose_spec.2
  · have h1 := Bool.and_eq_true_iff.mp (List.mem_filter.mp ha).2
    have h2 := Bool.and_eq_true_iff.mp (List.mem_filter.mp hb).2
    exact of_decide_eq_false (not_of h2.2) (hC.go _ (of_decide_eq_true h1.1) _ hab)
end
end Mine

namespace Mine
open PySem

theorem RowsAt.ext {σ σ' : Store} {d : Addr} {ps : List Addr} {rows : List (List Nat)} (R : RowsAt σ d ps rows) (e : Ext σ σ') : RowsAt σ' d ps rows :=
  ⟨e _ _ R.at_, R.len, fun i p r h h' => ⟨(R.row i p r h h').1, e _ _ (R.row i p r h h').2⟩⟩
section
variable {rs : List Ride} {ts : List Trip} (hR : ∀ r ∈ rs, RideOK r) (hT : ∀ t ∈ ts, TripOK t) (hsz : rs.length + ts.length ≤ 500)
include hR hT hsz
theorem own_road : ∀ u ∈ ts, u.1 = u.2.2.1 ∨ (u.1, u.2.2.1, u.2.2.2 - u.2.1) ∈ roadsOf rs ts := fun u hu => by
  by_cases h : u.1 = u.2.2.1
  · exact .inl h
  · refine .inr (List.mem_append_right _ (List.mem_flatMap.mpr ⟨u, hu, ?_⟩))
    unfold tripRoad; rw [if_neg h]; exact List.mem_singleton.mpr rfl
theorem nb_trans (a b c : Nat) (h : b ∈ nbOf (nblOf (roadsOf rs ts) ts) a) (h' : c ∈ nbOf (nblOf (roadsOf rs ts) ts) b) : c ∈ nbOf (nblOf (roadsOf rs ts) ts) a := by
  obtain ⟨t, u, e1, e2, k1⟩ := mem_nb.mp h
  obtain ⟨u', v, e3, e4, k2⟩ := mem_nb.mp h'
  rw [e2] at e3; cases e3
  have hu := List.mem_of_getElem? e2
  exact mem_nb.mpr ⟨t, v, e1, e4, can_trans (roads_pos hR hT) (roads_len (by omega)) (hT u hu).2.2.2.1 (own_road hR hT hsz u hu) k1 k2⟩
noncomputable def rkOf (ts : List Trip) (i : Nat) : Nat := match ts[i]? with | some t => t.2.1.toNat | none => 0
theorem rk_up (i j : Nat) (h : j ∈ nbOf (nblOf (roadsOf rs ts) ts) i) : rkOf ts i < rkOf ts j := by
  obtain ⟨t, u, e1, e2, k1⟩ := mem_nb.mp h
  have h1 := can_pos (roads_pos hR hT) (roads_len (by omega)) k1
  have h2 := hT t (List.mem_of_getElem? e1)
  have h3 := h2.2.2.1
  have h4 := h2.2.2.2.1
  unfold rkOf; rw [e1, e2]
  show t.2.1.toNat < u.2.1.toNat
  omega
omit hR hsz in
theorem rk_le (i : Nat) : rkOf ts i ≤ 100000 := by
  unfold rkOf
  cases h : ts[i]? with
  | none => exact Nat.zero_le _
  | some t =>
    have := hT t (List.mem_of_getElem? h)
    have h1 := this.2.2.2.1
    have h2 := this.2.2.2.2
    show t.2.1.toNat ≤ 100000
    omega
theorem plan_ok {k : Nat} (hk : ts.length ≤ k) {σ : Store} {a b : Addr} {m m' : Bool} {Q : Post} (ha : σ a = some (.list m (rs.map rideV))) (hb : σ b = some (.list m' (ts.map tripV)))
    (q : ∀ dr qs rows da A σ', Ext σ σ' → RowsAt σ' dr qs rows → σ dr = none → (∀ p ∈ qs, σ p = none) → σ' da = some (.list true (A.map fun (j : Nat) => V.int j)) → σ da = none → da ≠ dr → PlanOK ts.length (nbOf (nblOf (roadsOf rs ts) ts)) rows A → Q (.tup [.ref dr, .ref da]) σ') : specAt P (k + 4) 41 [.ref a, .ref b] σ Q := by
  have hsz' : rs.length + ts.length ≤ 1000 := by omega
  have hnl : (nblOf (roadsOf rs ts) ts).length = ts.length := nbl_len
  refine spec_of (xs := f_plan) rfl rfl ?_
  refine st_expr (wp_call (vs := [.ref a, .ref b]) rfl (need_all_ok ha hb hR hT ?_))
  refine st_asgE (wp_call (vs := [.ref a, .ref b]) rfl (followers_ok hR hT hsz' ha hb fun db ps σ₁ e1 hB => ?_))
  refine st_asgE (wp_call (vs := [.ref db]) rfl (paired_ok (k := k + 1) (by rw [hnl]; omega) (by rw [hnl]; omega) hB nb_lt fun da M σ₂ _ hall hda hM hP => ?_))
  have e2 : Ext σ₁ σ₂ := fun b' o h => by rw [hall b' (by rw [h]; exact fun z => nomatch z)]; exact h
  have hB2 := hB.keep e2.keepL
  refine st_retE ?_
  dsimp only [we_tup, we_cons, we_nil, we_call, we_var]
  refine ⟨_, rfl, _, rfl, rows_of_ok (k := k + 2) (by rw [hnl]; omega) hB2 nb_lt hP.mat hM (rk_up hR hT hsz) (rk_le hT) (by decide) fun dr qs rows σ₃ e3 hrows hdr hqs hlen hisr => ?_⟩
  refine ⟨_, rfl, _, rfl, apart_of_ok (k := k + 2) (by rw [hnl]; omega) (hB2.keep e3.keepL) nb_lt (fun i => ?_) hP (e3 _ _ hM) fun d C T σ₄ e4 hd hdv hcov => ?_⟩
  · unfold nbOf nblOf
    rw [List.getElem?_map, List.length_map]
    cases ts[i]? with
    | none => exact Nat.zero_le _
    | some t =>
      show (rowN (roadsOf rs ts) ts t).length ≤ _
      unfold rowN
      rw [List.length_map]
      refine Nat.le_trans (List.length_filter_le _ _) ?_
      rw [List.length_zipIdx]; exact Nat.le_refl _
  · have back : ∀ {σ' : Store}, Ext σ σ' → ∀ p, σ' p = none → σ p = none := fun e p h => by
      cases hp : σ p with
      | none => rfl
      | some o => rw [e _ _ hp] at h; cases h
    have hpl := plan_math hP.mat nb_lt (rk_up hR hT hsz) (nb_trans hR hT hsz) hlen hisr hcov
    rw [hnl] at hpl hdv
    exact q dr qs rows d _ σ₄ (((e1.trans e2).trans e3).trans e4) (hrows.ext e4) (back (e1.trans e2) _ hdr) (fun p hp => back (e1.trans e2) _ (hqs p hp)) hdv (back ((e1.trans e2).trans e3) _ hd) (by rintro rfl; rw [hrows.at_] at hd; cases hd) hpl
end
end Mine

namespace Mine
open PySem

abbrev iV (l : List Nat) : List V := l.map fun (j : Nat) => V.int j
theorem intsOf_iV : ∀ (l : List Nat), intsOf (iV l) = some (l.map fun (j : Nat) => (j : Int))
  | [] => rfl
  | j :: l => by show (intsOf (iV l)).map _ = _; rw [intsOf_iV l]; rfl
end Mine

namespace Mine

/-- the last numbers of rows that hold just the numbers done -/
structure GoodL (nb : Nat → List Nat) (done L : List Nat) : Prop where
  nd : L.Nodup
  sub : ∀ v ∈ L, v ∈ done
  f : ∃ f : Nat → Nat, (∀ v ∈ done, f v ∈ L ∧ (v = f v ∨ f v ∈ nb v)) ∧ ∀ u ∈ done, ∀ v ∈ done, f u = f v → u = v ∨ v ∈ nb u ∨ u ∈ nb v
section
variable {nb : Nat → List Nat} {done L L' : List Nat} {x l : Nat}
theorem GoodL.nil : GoodL nb [] [] := ⟨List.nodup_nil, (fun _ h => nomatch h), id, (fun _ h => nomatch h), (fun _ h => nomatch h)⟩
theorem nodup_snoc (h : L.Nodup) (hx : x ∉ L) : (L ++ [x]).Nodup :=
  List.nodup_append.mpr ⟨h, List.nodup_cons.mpr ⟨(fun h => nomatch h), List.nodup_nil⟩, fun a ha b hb z => by
    cases List.mem_singleton.mp hb; subst z; exact hx ha⟩
theorem mem_snoc {v : Nat} : v ∈ L ++ [x] ↔ v ∈ L ∨ v = x := by rw [List.mem_append, List.mem_singleton]
theorem GoodL.new (h : GoodL nb done L) (hx : x ∉ done) (hp : L'.Perm (L ++ [x])) : GoodL nb (done ++ [x]) L' := by
  obtain ⟨nd, sub, f, h1, h2⟩ := h
  have hxL : x ∉ L := fun z => hx (sub _ z)
  refine ⟨hp.nodup_iff.mpr (nodup_snoc nd hxL), fun v hv => ?_, fun v => if v = x then x else f v, fun v hv => ?_, fun u hu v hv => ?_⟩
  · rcases mem_snoc.mp (hp.subset hv) with h | h
    · exact mem_snoc.mpr (.inl (sub _ h))
    · exact mem_snoc.mpr (.inr h)
  · dsimp only
    by_cases hvx : v = x
    · subst hvx; rw [if_pos rfl]; exact ⟨hp.symm.subset (mem_snoc.mpr (.inr rfl)), .inl rfl⟩
    · rw [if_neg hvx]
      have := h1 v ((mem_snoc.mp hv).resolve_right hvx)
      exact ⟨hp.symm.subset (mem_snoc.mpr (.inl this.1)), this.2⟩
  · dsimp only
    by_cases hux : u = x <;> by_cases hvx : v = x
    · intro _; exact .inl (hux.trans hvx.symm)
    · rw [if_pos hux, if_neg hvx]; intro z
      exact absurd (z ▸ (h1 v ((mem_snoc.mp hv).resolve_right hvx)).1) hxL
    · rw [if_neg hux, if_pos hvx]; intro z
      exact absurd (z ▸ (h1 u ((mem_snoc.mp hu).resolve_right hux)).1) hxL
    · rw [if_neg hux, if_neg hvx]
      exact h2 u ((mem_snoc.mp hu).resolve_right hux) v ((mem_snoc.mp hv).resolve_right hvx)
theorem mem_cut {v : Nat} : v ∈ L.filter (fun y => !decide (y = l)) ++ [x] ↔ (v ∈ L ∧ v ≠ l) ∨ v = x := by
  rw [mem_snoc, List.mem_filter]
  constructor
  · rintro (⟨h, h'⟩ | h)
    · exact .inl ⟨h, fun z => by rw [decide_eq_true z] at h'; cases h'⟩
    · exact .inr h
  · rintro (⟨h, h'⟩ | h)
    · exact .inl ⟨h, by rw [decide_eq_false h']; rfl⟩
    · exact .inr h
theorem nodup_cut (nd : L.Nodup) (hx : x ∉ L) : (L.filter (fun y => !decide (y = l)) ++ [x]).Nodup :=
  nodup_snoc (List.Pairwise.filter _ nd) fun z => hx (List.mem_filter.mp z).1
theorem GoodL.more (tr : ∀ a b c, b ∈ nb a → c ∈ nb b → c ∈ nb a) (h : GoodL nb done L) (hx : x ∉ done) (hn : x ∈ nb l) (hp : L'.Perm (L.filter (fun y => !decide (y = l)) ++ [x])) : GoodL nb (done ++ [x]) L' := by
  obtain ⟨nd, sub, f, h1, h2⟩ := h
  have hxL : x ∉ L := fun z => hx (sub _ z)
  have up : ∀ v ∈ done, f v = l → x ∈ nb v := fun v hv e => by
    rcases (h1 v hv).2 with h | h
    · rw [e] at h; rw [h]; exact hn
    · rw [e] at h; exact tr _ _ _ h hn
  refine ⟨hp.nodup_iff.mpr (nodup_cut nd hxL), fun v hv => ?_, fun v => if v = x then x else if f v = l then x else f v, fun v hv => ?_, fun u hu v hv => ?_⟩
  · rcases mem_cut.mp (hp.subset hv) with h | h
    · exact mem_snoc.mpr (.inl (sub _ h.1))
    · exact mem_snoc.mpr (.inr h)
  · dsimp only
    by_cases hvx : v = x
    · subst hvx; rw [if_pos rfl]; exact ⟨hp.symm.subset (mem_cut.mpr (.inr rfl)), .inl rfl⟩
    · have hv := (mem_snoc.mp hv).resolve_right hvx
      rw [if_neg hvx]
      by_cases e : f v = l
      · rw [if_pos e]; exact ⟨hp.symm.subset (mem_cut.mpr (.inr rfl)), .inr (up v hv e)⟩
      · rw [if_neg e]; exact ⟨hp.symm.subset (mem_cut.mpr (.inl ⟨(h1 v hv).1, e⟩)), (h1 v hv).2⟩
  · dsimp only
    by_cases hux : u = x <;> by_cases hvx : v = x
    · intro _; exact .inl (hux.trans hvx.symm)
    · have hv := (mem_snoc.mp hv).resolve_right hvx
      rw [if_pos hux, if_neg hvx]
      by_cases e : f v = l
      · intro _; rw [hux]; exact .inr (.inr (up v hv e))
      · rw [if_neg e]; intro z; exact absurd (z ▸ (h1 v hv).1) hxL
    · have hu := (mem_snoc.mp hu).resolve_right hux
      rw [if_neg hux, if_pos hvx]
      by_cases e : f u = l
      · intro _; rw [hvx]; exact .inr (.inl (up u hu e))
      · rw [if_neg e]; intro z; exact absurd (z ▸ (h1 u hu).1) hxL
    · have hu := (mem_snoc.mp hu).resolve_right hux
      have hv := (mem_snoc.mp hv).resolve_right hvx
      rw [if_neg hux, if_neg hvx]
      by_cases e : f u = l <;> by_cases e' : f v = l
      · intro _; exact h2 u hu v hv (e.trans e'.symm)
      · rw [if_pos e, if_neg e']; intro z; exact absurd (z ▸ (h1 v hv).1) hxL
      · rw [if_neg e, if_pos e']; intro z; exact absurd (z ▸ (h1 u hu).1) hxL
      · rw [if_neg e, if_neg e']; exact h2 u hu v hv
theorem nodup_map {f : Nat → Nat} : ∀ {A : List Nat}, A.Nodup → (∀ u ∈ A, ∀ v ∈ A, f u = f v → u = v) → (A.map f).Nodup
  | [], _, _ => List.nodup_nil
  | a :: A, h, q => by
    obtain ⟨h1, h2⟩ := List.nodup_cons.mp h
    refine List.nodup_cons.mpr ⟨fun z => ?_, nodup_map h2 fun u hu v hv => q u (.tail _ hu) v (.tail _ hv)⟩
    obtain ⟨v, hv, e⟩ := List.mem_map.mp z
    exact h1 (q v (.tail _ hv) a (.head _) e ▸ hv)
theorem GoodL.len (h : GoodL nb done L) {A : List Nat} (hA : A.Nodup) (hs : ∀ a ∈ A, a ∈ done) (ha : ∀ a ∈ A, ∀ b ∈ A, b ∉ nb a) : A.length ≤ L.length := by
  obtain ⟨_, _, f, h1, h2⟩ := h
  have := nodup_len (nodup_map (f := f) hA fun u hu v hv e => (h2 u (hs u hu) v (hs v hv) e).elim id fun z => z.elim (fun z => absurd z (ha u hu v hv)) fun z => absurd z (ha v hv u hu)) (m := L) fun y hy => by
    obtain ⟨v, hv, rfl⟩ := List.mem_map.mp hy
    exact (h1 v (hs v hv)).1
  rw [List.length_map] at this; exact this
end

/-- the next one in its row -/
noncomputable def Suc (rows : List (List Nat)) (v w : Nat) : Prop := ∃ r ∈ rows, ∃ k : Nat, r[k]? = some v ∧ r[k + 1]? = some w
theorem flat_at : ∀ {rows : List (List Nat)}, rows.flatten.Nodup → ∀ {r r' : List Nat} {k k' v : Nat}, r ∈ rows → r' ∈ rows → r[k]? = some v → r'[k']? = some v → r = r' ∧ k = k'
  | [], _, _, _, _, _, _, h, _, _, _ => nomatch h
  | s :: rows, hn, r, r', k, k', v, h, h', e, e' => by
    rw [List.flatten_cons] at hn
    obtain ⟨n1, n2, n3⟩ := List.nodup_append.mp hn
    have out : ∀ {q : List Nat} {j : Nat}, q ∈ rows → q[j]? = some v → s[k]? = some v ∨ s[k']? = some v → False := fun hq hj hs =>
      n3 v (hs.elim List.mem_of_getElem? List.mem_of_getElem?) v (List.mem_flatten.mpr ⟨_, hq, List.mem_of_getElem? hj⟩) rfl
    rcases List.mem_cons.mp h with e1 | h1 <;> rcases List.mem_cons.mp h' with e2 | h2
    · refine ⟨e1.trans e2.symm, ?_⟩
      rw [e1] at e; rw [e2] at e'
      obtain ⟨a, b⟩ := List.getElem?_eq_some_iff.mp e
      obtain ⟨a', b'⟩ := List.getElem?_eq_some_iff.mp e'
      exact (List.getElem_inj n1).mp (b.trans b'.symm)
    · rw [e1] at e; exact (out h2 e' (.inl e)).elim
    · rw [e2] at e'; exact (out h1 e (.inr e')).elim
    · exact flat_at n2 h1 h2 e e'
structure UpL (rows : List (List Nat)) (done L : List Nat) : Prop where
  nd : L.Nodup
  mem : ∀ v, v ∈ L ↔ v ∈ done ∧ ∀ w ∈ done, ¬ Suc rows v w
section
variable {rows : List (List Nat)} {done L L' : List Nat} {x l : Nat}
theorem UpL.nil : UpL rows [] [] := ⟨List.nodup_nil, fun _ => ⟨(fun h => nomatch h), fun h => nomatch h.1⟩⟩
theorem UpL.new (h : UpL rows done L) (hx : x ∉ done) (h1 : ∀ v ∈ done, ¬ Suc rows v x) (h2 : ∀ w ∈ done, ¬ Suc rows x w) (h3 : ¬ Suc rows x x) (hp : L'.Perm (L ++ [x])) : UpL rows (done ++ [x]) L' := by
  have hxL : x ∉ L := fun z => hx ((h.mem x).mp z).1
  refine ⟨hp.nodup_iff.mpr (nodup_snoc h.nd hxL), fun v => ?_⟩
  rw [hp.mem_iff, mem_snoc, mem_snoc, h.mem]
  constructor
  · rintro (⟨a, b⟩ | rfl)
    · refine ⟨.inl a, fun w hw => ?_⟩
      rcases mem_snoc.mp hw with hw | rfl
      · exact b w hw
      · exact h1 v a
    · refine ⟨.inr rfl, fun w hw => ?_⟩
      rcases mem_snoc.mp hw with hw | rfl
      · exact h2 w hw
      · exact h3
  · rintro ⟨a | rfl, b⟩
    · exact .inl ⟨a, fun w hw => b w (mem_snoc.mpr (.inl hw))⟩
    · exact .inr rfl
theorem UpL.more (hn : rows.flatten.Nodup) (h : UpL rows done L) (hx : x ∉ done) (hl : l ∈ done) (hs : Suc rows l x) (h2 : ∀ w ∈ done, ¬ Suc rows x w) (h3 : ¬ Suc rows x x) : l ∈ L ∧ ∀ L' : List Nat, L'.Perm (L.filter (fun y => !decide (y = l)) ++ [x]) → UpL rows (done ++ [x]) L' := by
  have hxL : x ∉ L := fun z => hx ((h.mem x).mp z).1
  have uniq : ∀ {a b c}, Suc rows a b → Suc rows a c → b = c := by
    rintro a b c ⟨r, hr, k, e1, e2⟩ ⟨r', hr', k', e1', e2'⟩
    obtain ⟨rfl, rfl⟩ := flat_at hn hr hr' e1 e1'
    rw [e2] at e2'; exact Option.some.inj e2'
  have uniq' : ∀ {a b c}, Suc rows a c → Suc rows b c → a = b := by
    rintro a b c ⟨r, hr, k, e1, e2⟩ ⟨r', hr', k', e1', e2'⟩
    obtain ⟨rfl, e⟩ := flat_at hn hr hr' e2 e2'
    cases (Nat.succ.inj e)
    rw [e1] at e1'; exact Option.some.inj e1'
  refine ⟨(h.mem l).mpr ⟨hl, fun w hw z => hx (uniq hs z ▸ hw)⟩, fun L' hp => ⟨hp.nodup_iff.mpr (nodup_cut h.nd hxL), fun v => ?_⟩⟩
  rw [hp.mem_iff, mem_cut, mem_snoc, h.mem]
  constructor
  · rintro (⟨⟨a, b⟩, c⟩ | rfl)
    · refine ⟨.inl a, fun w hw => ?_⟩
      rcases mem_snoc.mp hw with hw | rfl
      · exact b w hw
      · exact fun z => c (uniq' z hs)
    · refine ⟨.inr rfl, fun w hw => ?_⟩
      rcases mem_snoc.mp hw with hw | rfl
      · exact h2 w hw
      · exact h3
  · rintro ⟨a | rfl, b⟩
    · exact .inl ⟨⟨a, fun w hw => b w (mem_snoc.mpr (.inl hw))⟩, fun z => by subst z; exact b x (mem_snoc.mpr (.inr rfl)) hs⟩
    · exact .inr rfl
theorem UpL.len (h : UpL rows done L) (hd : ∀ v ∈ rows.flatten, v ∈ done) (hd' : ∀ v ∈ done, v ∈ rows.flatten) : L.length ≤ rows.length := by
  have := nodup_len h.nd (m := rows.map fun r => r[r.length - 1]?.getD 0) fun v hv => by
    obtain ⟨a, b⟩ := (h.mem v).mp hv
    obtain ⟨r, hr, hvr⟩ := List.mem_flatten.mp (hd' v a)
    obtain ⟨k, hk⟩ := List.getElem?_of_mem hvr
    refine List.mem_map.mpr ⟨r, hr, ?_⟩
    have hlt := (List.getElem?_eq_some_iff.mp hk).1
    cases e : r[k + 1]? with
    | some w => exact absurd ⟨r, hr, k, hk, e⟩ (b w (hd w (List.mem_flatten.mpr ⟨r, hr, List.mem_of_getElem? e⟩)))
    | none =>
      have := List.getElem?_eq_none_iff.mp e
      rw [show r.length - 1 = k by omega, hk]; rfl
  rw [List.length_map] at this; exact this
end
end Mine
namespace Mine
noncomputable def cutL (l : Nat) (L : List Nat) : List Nat := L.filter fun y => !decide (y = l)
/-- what a deal gives behind a number more -/
noncomputable def Der (nb : Nat → List Nat) (x : Nat) (L L' : List Nat) : Prop := L'.Perm (L ++ [x]) ∨ ∃ l ∈ L, x ∈ nb l ∧ L'.Perm (cutL l L ++ [x])
noncomputable def Full (nb : Nat → List Nat) (x : Nat) (L : List Nat) (As : List (List Nat)) : Prop := (∃ L' ∈ As, L'.Perm (L ++ [x])) ∧ ∀ l ∈ L, x ∈ nb l → ∃ L' ∈ As, L'.Perm (cutL l L ++ [x])
structure DealInv (n : Nat) (nb : Nat → List Nat) (done : List Nat) (Ls : List (List Nat)) : Prop where
  good : ∀ L ∈ Ls, GoodL nb done L
  up : ∀ rows A, PlanOK n nb rows A → ∃ L ∈ Ls, UpL rows done L
theorem DealInv.nil {n : Nat} {nb : Nat → List Nat} : DealInv n nb [] [[]] := ⟨fun L h => by cases List.mem_singleton.mp h; exact .nil, fun _ _ _ => ⟨[], .head _, .nil⟩⟩
theorem DealInv.same {n : Nat} {nb : Nat → List Nat} {done : List Nat} {Ls Ls' : List (List Nat)} (h : DealInv n nb done Ls) (e : ∀ L, L ∈ Ls' ↔ L ∈ Ls) : DealInv n nb done Ls' :=
  ⟨fun L hL => h.good L ((e L).mp hL), fun r A hP => let ⟨L, a, b⟩ := h.up r A hP; ⟨L, (e L).mpr a, b⟩⟩
section
variable {n : Nat} {nb : Nat → List Nat} {done : List Nat} {Ls As : List (List Nat)} {x : Nat}
theorem DealInv.step {rk : Nat → Nat} (tr : ∀ a b c, b ∈ nb a → c ∈ nb b → c ∈ nb a) (hrk : ∀ i, ∀ j ∈ nb i, rk i < rk j) (hx : x ∉ done) (hlo : ∀ v ∈ done, rk v ≤ rk x) (hhi : ∀ v, v < n → rk v < rk x → v ∈ done)
    (h : DealInv n nb done Ls) (s : ∀ L' ∈ As, ∃ L ∈ Ls, Der nb x L L') (c : ∀ L ∈ Ls, Full nb x L As) : DealInv n nb (done ++ [x]) As := by
  refine ⟨fun L' h' => ?_, fun rows A hP => ?_⟩
  · obtain ⟨L, hL, hd⟩ := s L' h'
    rcases hd with hp | ⟨l, _, hn, hp⟩
    · exact (h.good L hL).new hx hp
    · exact (h.good L hL).more tr hx hn hp
  · obtain ⟨L, hL, hu⟩ := h.up rows A hP
    obtain ⟨⟨L₁, m1, p1⟩, c2⟩ := c L hL
    have sn : ∀ {a b}, Suc rows a b → b ∈ nb a := fun ⟨r, hr, k, e1, e2⟩ => hP.step r hr k _ _ e1 e2
    have h2 : ∀ v ∈ done, ¬ Suc rows x v := fun v hv z => Nat.lt_irrefl _ (Nat.lt_of_lt_of_le (hrk _ _ (sn z)) (hlo v hv))
    have h3 : ¬ Suc rows x x := fun z => Nat.lt_irrefl _ (hrk _ _ (sn z))
    by_cases hpre : ∃ l, Suc rows l x
    · obtain ⟨l, hl⟩ := hpre
      have hln : l < n := by
        obtain ⟨r, hr, k, e1, _⟩ := hl
        exact List.mem_range.mp (hP.perm.subset (List.mem_flatten.mpr ⟨r, hr, List.mem_of_getElem? e1⟩))
      obtain ⟨a, b⟩ := hu.more (hP.perm.nodup_iff.mpr List.nodup_range) hx (hhi l hln (hrk _ _ (sn hl))) hl h2 h3
      obtain ⟨L₂, m2, p2⟩ := c2 l a (sn hl)
      exact ⟨L₂, m2, b L₂ p2⟩
    · exact ⟨L₁, m1, hu.new hx (fun v _ z => hpre ⟨v, z⟩) h2 h3 p1⟩
theorem DealInv.fin {rows : List (List Nat)} {A : List Nat} (h : DealInv n nb done Ls) (hd : done.Perm (List.range n)) (hP : PlanOK n nb rows A) : (∀ L ∈ Ls, rows.length ≤ L.length) ∧ ∃ L ∈ Ls, L.length = rows.length := by
  have hA : A.Nodup := nodup_of fun i j x hi hj => by
    rcases Nat.lt_trichotomy i j with h | h | h
    · exact absurd (hP.up i j x x h hi hj) (Nat.lt_irrefl _)
    · exact h
    · exact absurd (hP.up j i x x h hj hi) (Nat.lt_irrefl _)
  have lo : ∀ L ∈ Ls, rows.length ≤ L.length := fun L hL => by
    rw [hP.same]
    exact (h.good L hL).len hA (fun a ha => hd.mem_iff.mpr (List.mem_range.mpr (hP.lt a ha))) hP.apart
  obtain ⟨L, hL, hu⟩ := h.up rows A hP
  exact ⟨lo, L, hL, Nat.le_antisymm (hu.len (fun v hv => hd.mem_iff.mpr (hP.perm.mem_iff.mp hv)) fun v hv => hP.perm.mem_iff.mpr (hd.mem_iff.mp hv)) (lo L hL)⟩
end
end Mine

namespace Mine
open PySem

theorem eqvAll_ints : ∀ {l l' : List Nat}, PyData.eqvAll (l.map fun (j : Nat) => PyData.int j) (l'.map fun (j : Nat) => PyData.int j) = true → l = l'
  | [], [], _ => rfl
  | [], _ :: _, h => nomatch h
  | _ :: _, [], h => nomatch h
  | a :: l, b :: l', h => by
    obtain ⟨h1, h2⟩ := Bool.and_eq_true_iff.mp (show (PyData.eqv (.int a) (.int b) && PyData.eqvAll (l.map fun (j : Nat) => PyData.int j) (l'.map fun (j : Nat) => PyData.int j)) = true from h)
    have h3 : (a : Int) = b := beq_iff_eq.mp (show ((a : Int) == (b : Int)) = true from h1)
    rw [Int.ofNat_inj.mp h3, eqvAll_ints h2]
theorem nat_perm {l : List Nat} {is : List Int} (h : is.Perm (l.map fun (j : Nat) => (j : Int))) : ∃ l' : List Nat, l'.Perm l ∧ is.map V.int = iV l' := by
  refine ⟨is.map Int.toNat, ?_, ?_⟩
  · have := h.map Int.toNat
    rw [List.map_map] at this
    have e : l.map (Int.toNat ∘ fun (j : Nat) => (j : Int)) = l := by
      rw [show (Int.toNat ∘ fun (j : Nat) => (j : Int)) = id from funext fun j => Int.toNat_natCast j, List.map_id]
    rw [e] at this; exact this
  · unfold iV
    rw [List.map_map]
    refine List.map_congr_left fun i hi => ?_
    obtain ⟨j, _, rfl⟩ := List.mem_map.mp (h.subset hi)
    show V.int _ = V.int ((Int.toNat (j : Int) : Nat) : Int)
    rw [Int.toNat_natCast]
/-- all stands but at one place -/
noncomputable def ExtB (d : Addr) (σ σ' : Store) : Prop := ∀ a o, a ≠ d → σ a = some o → σ' a = some o
theorem ExtB.refl {d : Addr} {σ : Store} : ExtB d σ σ := fun _ _ _ h => h
theorem ExtB.trans {d : Addr} {σ σ' σ'' : Store} (h : ExtB d σ σ') (h' : ExtB d σ' σ'') : ExtB d σ σ'' := fun a o n e => h' a o n (h a o n e)
theorem Ext.b {d : Addr} {σ σ' : Store} (h : Ext σ σ') : ExtB d σ σ' := fun a o _ e => h a o e
theorem snoc_get {α : Type} {l : List α} {x y : α} {i : Nat} (h : (l ++ [x])[i]? = some y) : l[i]? = some y ∨ (i = l.length ∧ x = y) := by
  rcases Nat.lt_trichotomy i l.length with hi | hi | hi
  · rw [List.getElem?_append_left hi] at h; exact .inl h
  · subst hi; rw [List.getElem?_append_right (Nat.le_refl _), Nat.sub_self] at h; exact .inr ⟨rfl, Option.some.inj h⟩
  · rw [List.getElem?_eq_none (by rw [List.length_append]; exact hi)] at h; cases h
theorem RowsAt.snoc {σ : Store} {d c : Addr} {qs : List Addr} {As : List (List Nat)} {L : List Nat} (R : RowsAt σ d qs As) (hc : σ c = some (.list true (iV L))) (hcd : c ≠ d) : RowsAt (σ.set d (.list true (qs.map .ref ++ [.ref c]))) d (qs ++ [c]) (As ++ [L]) := by
  refine ⟨?_, ?_, fun i p r h h' => ?_⟩
  · rw [set_self, List.map_append]; rfl
  · rw [List.length_append, List.length_append, R.len]; rfl
  · rcases snoc_get h with h1 | ⟨h1, rfl⟩
    · rcases snoc_get h' with h2 | ⟨h2, rfl⟩
      · obtain ⟨a, b⟩ := R.row i p r h1 h2
        exact ⟨a, by rw [set_ne a]; exact b⟩
      · rw [h2, ← R.len, List.getElem?_eq_none (Nat.le_refl _)] at h1; cases h1
    · rcases snoc_get h' with h2 | ⟨h2, rfl⟩
      · rw [h1, R.len, List.getElem?_eq_none (Nat.le_refl _)] at h2; cases h2
      · exact ⟨hcd, by rw [set_ne hcd]; exact hc⟩
section
variable {S : Spec} {ρ : Loc} {σ : Store}
/-- a row more, sorted -/
theorem push_sorted {M : List Nat} {x : Nat} {q d : Addr} {qs : List Addr} {As : List (List Nat)} {K : Store → Prop} (hq : σ q = some (.list true (iV M))) (hM : M.length < 60) (R : RowsAt σ d qs As) (hz : As.length ≤ 900000) (h5 : ρ 5 = some (.int x))
    (k : ∀ L' c σ', L'.Perm (M ++ [x]) → ExtB d σ σ' → RowsAt σ' d (qs ++ [c]) (As ++ [L']) → K σ') :
    wpE S (.sorted (.bin .add (.cst (.ref q)) (.list [.var 5]))) ρ σ fun va σ₂ => ∃ l, σ₂ d = some (.list true l) ∧ l.length ≤ 1000000 ∧ K (σ₂.set d (.list true (l ++ [va]))) := by
  refine ⟨.int x, h5, fun c1 hc1 => ⟨iV M, [.int x], Ext.new hc1 _ _ hq, set_self, ?_, fun c2 hc2 => ⟨c2, true, iV (M ++ [x]), _, rfl, ?_, ?_, intsOf_iV _, fun is' h1 _ c3 hc3 => ?_⟩⟩⟩
  · unfold iV; rw [List.length_map]; show M.length + 1 ≤ _; omega
  · rw [set_self]; unfold iV; rw [List.map_append]; rfl
  · unfold iV; rw [List.length_map, List.length_append]; show M.length + 1 < _; omega
  obtain ⟨L', hp, e'⟩ := nat_perm h1
  rw [e']
  have e := ((Ext.new (o := .list true [.int x]) hc1).trans (Ext.new (o := .list true (iV M ++ [.int x])) hc2)).trans (Ext.new (o := .list true (iV L')) hc3)
  generalize hσ : Store.set _ c3 (.list true (iV L')) = σ₃ at e ⊢
  have h3 : σ₃ c3 = some (.list true (iV L')) := by rw [← hσ]; exact set_self
  have R3 := R.ext e
  have hne : c3 ≠ d := by
    rintro rfl
    have := (Ext.new (o := .list true (iV M ++ [.int x])) hc2) _ _ ((Ext.new (o := .list true [.int x]) hc1) _ _ R.at_)
    rw [this] at hc3; cases hc3
  refine ⟨qs.map .ref, R3.at_, ?_, k L' c3 _ hp (fun a o ha h => ?_) (R3.snoc h3 hne)⟩
  · rw [List.length_map, R.len]; omega
  · rw [set_ne ha]; exact e _ _ h
end
end Mine

namespace Mine
open PySem

section
variable {rs : List Ride} {ts : List Trip} (hR : ∀ r ∈ rs, RideOK r) (hT : ∀ t ∈ ts, TripOK t) (hsz : rs.length + ts.length ≤ 500)
include hR hT hsz

theorem inner_ok {k x : Nat} {L : List Nat} {As : List (List Nat)} {qs : List Addr} {d8 dt dl p : Addr} {ρ : Loc} {σ : Store} {m1 m2 : Bool} {Q : FPost} {r : List Mine.S}
    (hdt : σ dt = some (.list m1 (ts.map tripV))) (hdl : σ dl = some (.list m2 ((roadsOf rs ts).map rideV))) (n8t : dt ≠ d8) (n8l : dl ≠ d8)
    (r1 : ρ 1 = some (.ref dt)) (r2 : ρ 2 = some (.ref dl)) (r5 : ρ 5 = some (.int x)) (r8 : ρ 8 = some (.ref d8)) (r9 : ρ 9 = some (.ref p))
    (hp : σ p = some (.list true (iV L))) (hpd : p ≠ d8) (hL : ∀ v ∈ L, v < ts.length) (hLl : L.length ≤ 6) (hx : x < ts.length) (R : RowsAt σ d8 qs As) (hA : As.length ≤ 800000)
    (q : ∀ ρ' σ' qs' As', (∀ i, i ≠ 12 → ρ' i = ρ i) → ExtB d8 σ σ' → RowsAt σ' d8 qs' As' → (∀ M ∈ As, M ∈ As') → (∀ M ∈ As', M ∈ As ∨ ∃ l ∈ L, x ∈ nbOf (nblOf (roadsOf rs ts) ts) l ∧ M.Perm (cutL l L ++ [x])) → (∀ l ∈ L, x ∈ nbOf (nblOf (roadsOf rs ts) ts) l → ∃ M ∈ As', M.Perm (cutL l L ++ [x])) → As'.length ≤ As.length + L.length → wpSs (specAt P (k + 2)) r ρ' σ' Q) :
    wpSs (specAt P (k + 2)) (.for (.one 12) (.var 9) [.ite (.call 30 [.var 2, .sub (.var 1) (.var 12), .sub (.var 1) (.var 5)]) [.expr (.append (.var 8) (.sorted (.bin .add (.compIf (.one 15) (.var 9) (.cmp .ne (.var 15) (.var 12)) (.var 15)) (.list [.var 5]))))] []] :: r) ρ σ Q := by
  have tat : ∀ {σ' : Store} {i : Nat} {t : Trip}, ExtB d8 σ σ' → ts[i]? = some t → subV σ' (.ref dt) (.int i) = some (tripV t) := fun e h => list_sub (e _ _ n8t hdt) (Int.natCast_nonneg _) (by rw [Int.toNat_natCast, List.getElem?_map, h]; rfl)
  have hpos := roads_pos hR hT
  have hrl := roads_len (rs := rs) (ts := ts) (by omega)
  refine st_forL (p := p) (ev_var r9) hp (forW_of (fun t ρ' σ' => (∀ i, i ≠ 12 → ρ' i = ρ i) ∧ ExtB d8 σ σ' ∧ ∃ qs' As', RowsAt σ' d8 qs' As' ∧ (∀ M ∈ As, M ∈ As') ∧ (∀ M ∈ As', M ∈ As ∨ ∃ l ∈ L, x ∈ nbOf (nblOf (roadsOf rs ts) ts) l ∧ M.Perm (cutL l L ++ [x])) ∧ (∀ l ∈ L.take t, x ∈ nbOf (nblOf (roadsOf rs ts) ts) l → ∃ M ∈ As', M.Perm (cutL l L ++ [x])) ∧ As'.length ≤ As.length + t) (fun _ _ _ _ h => ⟨_, h.2.1 _ _ hpd hp⟩) ?_ ?_ ⟨fun _ _ => rfl, .refl, qs, As, R, fun _ h => h, fun _ h => .inl h, (fun _ h => nomatch h), Nat.le_refl _⟩)
  · rintro t v ρ₁ σ₁ K hv ⟨eρ, e1, qs₁, As₁, R1, i1, i2, i3, i4⟩ hn hx'
    unfold iV at hv
    rw [List.getElem?_map] at hv
    obtain ⟨l, hl, rfl⟩ := Option.map_eq_some_iff.mp hv
    have hlm := List.mem_of_getElem? hl
    have htl := (List.getElem?_eq_some_iff.mp hl).1
    obtain ⟨u, hu⟩ : ∃ u, ts[l]? = some u := ⟨_, List.getElem?_eq_getElem (hL l hlm)⟩
    obtain ⟨w, hw⟩ : ∃ w, ts[x]? = some w := ⟨_, List.getElem?_eq_getElem hx⟩
    have g : ∀ {i : Nat} {y : V}, i ≠ 12 → ρ i = some y → (ρ₁.set 12 (.int l)) i = some y := fun {i y} hi h => by
      show (if i = 12 then _ else ρ₁ i) = _
      rw [if_neg hi, eρ i hi]; exact h
    have keep : ∀ i, i ≠ 12 → (ρ₁.set 12 (.int l)) i = ρ i := fun i hi => by
      show (if i = 12 then _ else ρ₁ i) = _
      rw [if_neg hi, eρ i hi]
    refine ⟨_, rfl, st_ifE ?_⟩
    show wpE _ (.call 30 _) _ _ _
    refine wp_call (vs := [.ref dl, tripV u, tripV w]) (ev_cons (ev_var (g (by decide) r2)) (ev_cons (ev_sub (ev_var (g (by decide) r1)) (ev_var rfl) (tat e1 hu)) (ev_cons (ev_sub (ev_var (g (by decide) r1)) (ev_var (g (by decide) r5)) (tat e1 hw)) ev_nil))) (law_can_ok hpos hrl (e1 _ _ n8l hdl) fun σ₂ e2 => ?_)
    have e3 : ExtB d8 σ σ₂ := e1.trans e2.b
    have R2 := R1.ext e2
    have tk : L.take (t + 1) = L.take t ++ [l] := take_more hl
    cases hc : canB (roadsOf rs ts) u w with
    | false =>
      have hno : x ∉ nbOf (nblOf (roadsOf rs ts) ts) l := fun z => by
        obtain ⟨u', w', h1, h2, h3⟩ := mem_nb.mp z
        rw [hu] at h1; cases h1
        rw [hw] at h2; cases h2
        rw [hc] at h3; cases h3
      refine st_nil (S := specAt P (k + 2)) (hn _ _ ⟨keep, e3, qs₁, As₁, R2, i1, i2, fun y hy => ?_, by omega⟩)
      rw [tk] at hy
      rcases List.mem_append.mp hy with hy | hy
      · exact i3 y hy
      · cases List.mem_singleton.mp hy; exact fun z => absurd z hno
    | true =>
      have hyes : x ∈ nbOf (nblOf (roadsOf rs ts) ts) l := mem_nb.mpr ⟨u, w, hu, hw, hc⟩
      refine st_expr ⟨.ref d8, g (by decide) r8, d8, _, rfl, R2.at_, ?_⟩
      show wpE _ (.compIf _ _ _ _) _ _ _
      refine wp_compIfM (h := fun (j : Nat) => V.int j) (l := L) (p := p) (ev_var (g (by decide) r9)) (e3 _ _ hpd hp) (by omega) (fun y => !decide (y = l)) (fun (y : Nat) => V.int y) (fun y hy => ⟨_, rfl, ?_, fun _ => rfl⟩) fun c hc => ?_
      · have := ev_neI (ρ := Loc.set (ρ₁.set 12 (.int l)) 15 (.int y)) (σ := σ₂) (a := .var 15) (b := .var 12) (p := y) (q := l) rfl rfl
        rw [this, show decide ((y : Int) = (l : Int)) = decide (y = l) from decide_eq_decide.mpr Int.ofNat_inj]
      · have x1 := Ext.new (o := .list true (iV (cutL l L))) hc
        have R3 := R2.ext x1
        refine push_sorted (S := specAt P (k + 2)) (M := cutL l L) (q := c) (K := fun σ' => wpSs (specAt P (k + 2)) [] (ρ₁.set 12 (.int l)) σ' K) set_self ?_ R3 (by omega) (g (by decide) r5) fun M c' σ₃ hM e4 R4 => ?_
        · have : (cutL l L).length ≤ L.length := List.length_filter_le _ _
          omega
        refine st_nil (S := specAt P (k + 2)) (hn _ _ ⟨keep, (e3.trans x1.b).trans e4, _, _, R4, fun N hN => List.mem_append_left _ (i1 N hN), fun N hN => ?_, fun y hy hyx => ?_, ?_⟩)
        · rcases List.mem_append.mp hN with hN | hN
          · exact i2 N hN
          · cases List.mem_singleton.mp hN; exact .inr ⟨l, hlm, hyes, hM⟩
        · rw [tk] at hy
          rcases List.mem_append.mp hy with hy | hy
          · obtain ⟨N, a, b⟩ := i3 y hy hyx
            exact ⟨N, List.mem_append_left _ a, b⟩
          · cases List.mem_singleton.mp hy
            exact ⟨M, List.mem_append_right _ (.head _), hM⟩
        · rw [List.length_append]; show As₁.length + 1 ≤ _; omega
  · rintro ρ₁ σ₁ ⟨eρ, e1, qs₁, As₁, R1, i1, i2, i3, i4⟩
    unfold iV at i3 i4
    rw [List.length_map] at i3 i4
    rw [List.take_length] at i3
    exact q ρ₁ σ₁ qs₁ As₁ eρ e1 R1 i1 i2 i3 i4
omit hR hT hsz in
theorem Full.mono {nb : Nat → List Nat} {x : Nat} {L : List Nat} {As As' : List (List Nat)} (h : Full nb x L As) (s : ∀ M ∈ As, M ∈ As') : Full nb x L As' :=
  ⟨let ⟨M, a, b⟩ := h.1; ⟨M, s M a, b⟩, fun l hl hx => let ⟨M, a, b⟩ := h.2 l hl hx; ⟨M, s M a, b⟩⟩
theorem middle_ok {k x : Nat} {Ls : List (List Nat)} {ps : List Addr} {d4 d8 dt dl : Addr} {ρ : Loc} {σ : Store} {m1 m2 : Bool} {Q : FPost} {r : List Mine.S}
    (hdt : σ dt = some (.list m1 (ts.map tripV))) (hdl : σ dl = some (.list m2 ((roadsOf rs ts).map rideV))) (n8t : dt ≠ d8) (n8l : dl ≠ d8) (n84 : d4 ≠ d8) (np : ∀ p ∈ ps, p ≠ d8)
    (r1 : ρ 1 = some (.ref dt)) (r2 : ρ 2 = some (.ref dl)) (r4 : ρ 4 = some (.ref d4)) (r5 : ρ 5 = some (.int x)) (r8 : ρ 8 = some (.ref d8))
    (D : RowsAt σ d4 ps Ls) (hLs : ∀ L ∈ Ls, (∀ v ∈ L, v < ts.length) ∧ L.length ≤ 6) (hz : Ls.length ≤ 90000) (hx : x < ts.length) (R : RowsAt σ d8 [] [])
    (q : ∀ ρ' σ' qs' As', (∀ i, i ≠ 9 → i ≠ 12 → ρ' i = ρ i) → ExtB d8 σ σ' → RowsAt σ' d8 qs' As' → (∀ M ∈ As', ∃ L ∈ Ls, Der (nbOf (nblOf (roadsOf rs ts) ts)) x L M) → (∀ L ∈ Ls, Full (nbOf (nblOf (roadsOf rs ts) ts)) x L As') → As'.length ≤ 7 * Ls.length → wpSs (specAt P (k + 2)) r ρ' σ' Q) :
    wpSs (specAt P (k + 2)) (.for (.one 9) (.var 4) [.expr (.append (.var 8) (.sorted (.bin .add (.var 9) (.list [.var 5])))), .for (.one 12) (.var 9) [.ite (.call 30 [.var 2, .sub (.var 1) (.var 12), .sub (.var 1) (.var 5)]) [.expr (.append (.var 8) (.sorted (.bin .add (.compIf (.one 15) (.var 9) (.cmp .ne (.var 15) (.var 12)) (.var 15)) (.list [.var 5]))))] []]] :: r) ρ σ Q := by
  refine st_forL (p := d4) (ev_var r4) D.at_ (forW_of (fun t ρ' σ' => (∀ i, i ≠ 9 → i ≠ 12 → ρ' i = ρ i) ∧ ExtB d8 σ σ' ∧ ∃ qs' As', RowsAt σ' d8 qs' As' ∧ (∀ M ∈ As', ∃ L ∈ Ls, Der (nbOf (nblOf (roadsOf rs ts) ts)) x L M) ∧ (∀ L ∈ Ls.take t, Full (nbOf (nblOf (roadsOf rs ts) ts)) x L As') ∧ As'.length ≤ 7 * t) (fun _ _ _ _ h => ⟨_, h.2.1 _ _ n84 D.at_⟩) ?_ ?_ ⟨fun _ _ _ => rfl, .refl, [], [], R, (fun _ h => nomatch h), (fun _ h => nomatch h), Nat.le_refl _⟩)
  · rintro t v ρ₁ σ₁ K hv ⟨eρ, e1, qs₁, As₁, R1, i2, i3, i4⟩ hn hx'
    rw [List.getElem?_map] at hv
    obtain ⟨p, hp, rfl⟩ := Option.map_eq_some_iff.mp hv
    have htl : t < ps.length := (List.getElem?_eq_some_iff.mp hp).1
    have htL : t < Ls.length := by rw [← D.len]; exact htl
    obtain ⟨L, hL⟩ : ∃ L, Ls[t]? = some L := ⟨_, List.getElem?_eq_getElem htL⟩
    have hLm := List.mem_of_getElem? hL
    obtain ⟨hLv, hLl⟩ := hLs L hLm
    obtain ⟨_, hpL⟩ := D.row t p L hp hL
    have hpd := np p (List.mem_of_getElem? hp)
    have g : ∀ {i : Nat} {y : V}, i ≠ 9 → i ≠ 12 → ρ i = some y → (ρ₁.set 9 (.ref p)) i = some y := fun {i y} hi hi' h => by
      show (if i = 9 then _ else ρ₁ i) = _
      rw [if_neg hi, eρ i hi hi']; exact h
    have tk : Ls.take (t + 1) = Ls.take t ++ [L] := take_more hL
    refine ⟨_, rfl, st_expr ⟨.ref d8, g (by decide) (by decide) r8, d8, _, rfl, R1.at_, .ref p, rfl, ?_⟩⟩
    refine push_sorted (S := specAt P (k + 2)) (M := L) (q := p) (K := fun σ' => wpSs (specAt P (k + 2)) (.for (.one 12) (.var 9) _ :: []) (ρ₁.set 9 (.ref p)) σ' K) (e1 _ _ hpd hpL) (by omega) R1 (by omega) (g (by decide) (by decide) r5) fun M c' σ₂ hM e2 R2 => ?_
    have e3 := e1.trans e2
    refine inner_ok hR hT hsz (e3 _ _ n8t hdt) (e3 _ _ n8l hdl) n8t n8l (g (by decide) (by decide) r1) (g (by decide) (by decide) r2) (g (by decide) (by decide) r5) (g (by decide) (by decide) r8) rfl (e3 _ _ hpd hpL) hpd hLv hLl hx R2 (by rw [List.length_append]; show As₁.length + 1 ≤ _; omega) fun ρ₂ σ₃ qs₂ As₂ eρ2 e4 R3 j1 j2 j3 j4 => ?_
    rw [List.length_append] at j4
    have j4 : As₂.length ≤ As₁.length + 1 + L.length := j4
    refine st_nil (S := specAt P (k + 2)) (hn _ _ ⟨fun i h1 h2 => ?_, e3.trans e4, qs₂, As₂, R3, fun N hN => ?_, fun N hN => ?_, by omega⟩)
    · rw [eρ2 i h2]
      show (if i = 9 then _ else ρ₁ i) = _
      rw [if_neg h1, eρ i h1 h2]
    · rcases j2 N hN with h | ⟨l, a, b, c⟩
      · rcases List.mem_append.mp h with h | h
        · exact i2 N h
        · cases List.mem_singleton.mp h; exact ⟨L, hLm, .inl hM⟩
      · exact ⟨L, hLm, .inr ⟨l, a, b, c⟩⟩
    · rw [tk] at hN
      rcases List.mem_append.mp hN with h | h
      · exact (i3 N h).mono fun M' h' => j1 M' (List.mem_append_left _ h')
      · cases List.mem_singleton.mp h
        exact ⟨⟨M, j1 M (List.mem_append_right _ (.head _)), hM⟩, j3⟩
  · rintro ρ₁ σ₁ ⟨eρ, e1, qs₁, As₁, R1, i2, i3, i4⟩
    rw [List.length_map, D.len] at i3 i4
    rw [List.take_length] at i3
    exact q ρ₁ σ₁ qs₁ As₁ eρ e1 R1 i2 i3 i4
end

theorem datL_rows {σ : Store} : ∀ {ps : List Addr} {Ds : List (List Nat)}, ps.length = Ds.length → (∀ (i : Nat) p L, ps[i]? = some p → Ds[i]? = some L → σ p = some (.list true (iV L))) → datL (dat σ 2) (ps.map .ref) = some (Ds.map fun L => PyData.list (L.map fun (j : Nat) => PyData.int j))
  | [], [], _, _ => rfl
  | [], _ :: _, h, _ => nomatch h
  | _ :: _, [], h, _ => nomatch h
  | p :: ps, L :: Ds, h, q => by
    have h1 : dat σ 2 (.ref p) = some (.list (L.map fun (j : Nat) => PyData.int j)) := dat_list (n := 1) (q 0 p L rfl rfl) (datL_map fun _ _ => rfl)
    have h2 := datL_rows (ps := ps) (Ds := Ds) (Nat.succ.inj h) fun i p L a b => q (i + 1) p L a b
    show (match dat σ 2 (.ref p), datL (dat σ 2) (ps.map .ref) with | some d, some ds => some (d :: ds) | _, _ => Option.none) = _
    rw [h1, h2]; rfl
theorem in_rows {σ : Store} {d p : Addr} {ps : List Addr} {Ds : List (List Nat)} {L : List Nat} (R : RowsAt σ d ps Ds) (hp : σ p = some (.list true (iV L))) : inV σ (.ref p) (.ref d) = some ((Ds.map fun L => PyData.list (L.map fun (j : Nat) => PyData.int j)).any fun y => PyData.eqv y (.list (L.map fun (j : Nat) => PyData.int j))) := by
  show (match σ d with | some (.list _ l) => inL σ (.ref p) l | some (.ds _ es) => _ | some (.di _ es) => _ | _ => Option.none) = _
  rw [R.at_]
  show (match datL (dat σ 2) (ps.map .ref), dat σ 2 (.ref p) with | some ds, some d => some (ds.any fun y => PyData.eqv y d) | _, _ => Option.none) = _
  rw [datL_rows R.len fun i p L a b => (R.row i p L a b).2, show dat σ 2 (.ref p) = some (.list (L.map fun (j : Nat) => PyData.int j)) from dat_list (n := 1) hp (datL_map fun _ _ => rfl)]
theorem once_ok {S : Spec} {ρ : Loc} {σ : Store} {Q : FPost} {r : List Mine.S} {d4 d8 : Addr} {qs : List Addr} {As : List (List Nat)} (r4 : ρ 4 = some (.ref d4)) (r8 : ρ 8 = some (.ref d8)) (R : RowsAt σ d8 qs As) (n48 : d8 ≠ d4) (nq : ∀ p ∈ qs, p ≠ d4) (hz : As.length ≤ 900000) (D : RowsAt σ d4 [] [])
    (q : ∀ ρ' σ' ps Ds, (∀ i, i ≠ 9 → ρ' i = ρ i) → ExtB d4 σ σ' → RowsAt σ' d4 ps Ds → (∀ p ∈ ps, p ∈ qs) → (∀ M, M ∈ Ds ↔ M ∈ As) → Ds.length ≤ As.length → wpSs S r ρ' σ' Q) :
    wpSs S (.for (.one 9) (.var 8) [.ite (.cmp .notin (.var 9) (.var 4)) [.expr (.append (.var 4) (.var 9))] []] :: r) ρ σ Q := by
  refine st_forL (p := d8) (ev_var r8) R.at_ (forW_of (fun t ρ' σ' => (∀ i, i ≠ 9 → ρ' i = ρ i) ∧ ExtB d4 σ σ' ∧ ∃ ps Ds, RowsAt σ' d4 ps Ds ∧ (∀ p ∈ ps, p ∈ qs) ∧ (∀ M, M ∈ Ds ↔ M ∈ As.take t) ∧ Ds.length ≤ t) (fun _ _ _ _ h => ⟨_, h.2.1 _ _ n48 R.at_⟩) ?_ ?_ ⟨fun _ _ => rfl, .refl, [], [], D, (fun _ h => nomatch h), fun M => ⟨(fun h => nomatch h), fun h => nomatch h⟩, Nat.le_refl _⟩)
  · rintro t v ρ₁ σ₁ K hv ⟨eρ, e1, ps, Ds, D1, i1, i2, i3⟩ hn hx'
    rw [List.getElem?_map] at hv
    obtain ⟨p, hp, rfl⟩ := Option.map_eq_some_iff.mp hv
    have htl : t < qs.length := (List.getElem?_eq_some_iff.mp hp).1
    have htL : t < As.length := by rw [← R.len]; exact htl
    obtain ⟨L, hL⟩ : ∃ L, As[t]? = some L := ⟨_, List.getElem?_eq_getElem htL⟩
    obtain ⟨_, hpL⟩ := R.row t p L hp hL
    have hpm := List.mem_of_getElem? hp
    have hpd := nq p hpm
    have tk : As.take (t + 1) = As.take t ++ [L] := take_more hL
    have keep : ∀ i, i ≠ 9 → (ρ₁.set 9 (.ref p)) i = ρ i := fun i hi => by
      show (if i = 9 then _ else ρ₁ i) = _
      rw [if_neg hi, eρ i hi]
    have h4 : (ρ₁.set 9 (.ref p)) 4 = some (.ref d4) := (keep 4 (by decide)).trans r4
    refine ⟨_, rfl, ?_⟩
    have hin := in_rows D1 (e1 _ _ hpd hpL)
    cases hb : (Ds.map fun L => PyData.list (L.map fun (j : Nat) => PyData.int j)).any fun y => PyData.eqv y (.list (L.map fun (j : Nat) => PyData.int j)) with
    | true =>
      rw [hb] at hin
      refine st_no (ev_cmp (ev_var rfl) (ev_var h4) (show (inV _ _ _).map (!·) = _ by rw [hin]; rfl)) (st_nil (S := S) (hn _ _ ⟨keep, e1, ps, Ds, D1, i1, fun M => ?_, by omega⟩))
      rw [tk, List.mem_append, i2]
      refine ⟨.inl, fun z => z.elim id fun z => ?_⟩
      cases List.mem_singleton.mp z
      obtain ⟨y, hy, he⟩ := List.any_eq_true.mp hb
      obtain ⟨M', hM', rfl⟩ := List.mem_map.mp hy
      rw [← eqvAll_ints (show PyData.eqvAll _ _ = true from he)]
      exact (i2 M').mp hM'
    | false =>
      rw [hb] at hin
      refine st_yes (ev_cmp (ev_var rfl) (ev_var h4) (show (inV _ _ _).map (!·) = _ by rw [hin]; rfl)) (st_app (S := S) (o := 4) (p := d4) (v := .ref p) h4 D1.at_ rfl (by rw [List.length_map, D1.len]; omega) (st_nil (hn _ _ ⟨keep, fun a o ha h => ?_, ps ++ [p], Ds ++ [L], D1.snoc (e1 _ _ hpd hpL) hpd, fun p' hp' => ?_, fun M => ?_, ?_⟩)))
      · rw [set_ne ha]; exact e1 _ _ ha h
      · rcases List.mem_append.mp hp' with h | h
        · exact i1 p' h
        · cases List.mem_singleton.mp h; exact hpm
      · rw [tk, List.mem_append, List.mem_append, i2]
      · rw [List.length_append]; show Ds.length + 1 ≤ _; omega
  · rintro ρ₁ σ₁ ⟨eρ, e1, ps, Ds, D1, i1, i2, i3⟩
    rw [List.length_map, R.len] at i2 i3
    rw [List.take_length] at i2
    exact q ρ₁ σ₁ ps Ds eρ e1 D1 i1 i2 i3
end Mine

namespace Mine
open PySem

theorem Ext.viaB {σ σ' σ'' : Store} {d : Addr} (e : Ext σ σ') (h : σ d = none) (b : ExtB d σ' σ'') : Ext σ σ'' := fun a o x => b a o (by rintro rfl; rw [h] at x; cases x) (e a o x)
theorem back_none {σ σ' : Store} {p : Addr} (e : Ext σ σ') (h : σ' p = none) : σ p = none := by
  cases hp : σ p with
  | none => rfl
  | some o => rw [e _ _ hp] at h; cases h
theorem live_ne {σ : Store} {a d : Addr} {o : O} (h : σ a = some o) (hd : σ d = none) : a ≠ d := by rintro rfl; rw [hd] at h; cases h
theorem RowsAt.live {σ : Store} {d e : Addr} {ps : List Addr} {rows : List (List Nat)} (R : RowsAt σ d ps rows) (he : σ e = none) : ∀ p ∈ ps, p ≠ e := fun p hp => by
  obtain ⟨i, hi⟩ := List.getElem?_of_mem hp
  obtain ⟨r, hr⟩ : ∃ r, rows[i]? = some r := ⟨_, List.getElem?_eq_getElem (by rw [← R.len]; exact (List.getElem?_eq_some_iff.mp hi).1)⟩
  exact live_ne (R.row i p r hi hr).2 he
noncomputable def begOf (ts : List Trip) (j : Nat) : Int := match ts[j]? with | some t => t.2.1 | none => 0
theorem rk_beg (ts : List Trip) (j : Nat) : rkOf ts j = (begOf ts j).toNat := by
  unfold rkOf begOf
  cases ts[j]? with
  | none => rfl
  | some t => rfl
theorem order_of {ts : List Trip} {ps : List (Int × Int)} (hp : ps.Perm ((List.range ts.length).map fun (j : Nat) => (begOf ts j, (j : Int)))) (hs : ps.Pairwise fun a b => a.1 ≤ b.1) :
    ∃ ord : List Nat, ord.Perm (List.range ts.length) ∧ (ord.Pairwise fun i j => rkOf ts i ≤ rkOf ts j) ∧ ps.map (fun p => V.int p.2) = iV ord := by
  have mem : ∀ p ∈ ps, p = (begOf ts p.2.toNat, ((p.2.toNat : Nat) : Int)) := fun p h => by
    obtain ⟨j, _, rfl⟩ := List.mem_map.mp (hp.subset h)
    show _ = (begOf ts (Int.toNat (j : Int)), ((Int.toNat (j : Int) : Nat) : Int))
    rw [Int.toNat_natCast]
  refine ⟨ps.map fun p => p.2.toNat, ?_, ?_, ?_⟩
  · have := hp.map fun p => p.2.toNat
    rw [List.map_map] at this
    rw [show ((fun p : Int × Int => p.2.toNat) ∘ fun (j : Nat) => (begOf ts j, (j : Int))) = id from funext fun j => Int.toNat_natCast j, List.map_id] at this
    exact this
  · rw [List.pairwise_map]
    refine List.Pairwise.imp_of_mem (fun {a b} ha hb h => ?_) hs
    have e1 : a.1 = begOf ts a.2.toNat := congrArg Prod.fst (mem a ha)
    have e2 : b.1 = begOf ts b.2.toNat := congrArg Prod.fst (mem b hb)
    rw [rk_beg, rk_beg, ← e1, ← e2]
    exact Int.toNat_le_toNat h
  · unfold iV
    rw [List.map_map]
    exact List.map_congr_left fun p h => congrArg V.int (congrArg Prod.snd (mem p h))
theorem lens_rows {ps : List Addr} {Ds : List (List Nat)} {f : V → V} (hl : ps.length = Ds.length) (h : ∀ (i : Nat) p L, ps[i]? = some p → Ds[i]? = some L → f (.ref p) = .int L.length) : (ps.map V.ref).map f = Ds.map fun L => V.int L.length := by
  refine List.ext_getElem? fun i => ?_
  rw [List.map_map, List.getElem?_map, List.getElem?_map]
  cases hi : ps[i]? with
  | none => rw [List.getElem?_eq_none (by rw [← hl]; exact List.getElem?_eq_none_iff.mp hi)]; rfl
  | some p =>
    obtain ⟨L, hL⟩ : ∃ L, Ds[i]? = some L := ⟨_, List.getElem?_eq_getElem (by rw [← hl]; exact (List.getElem?_eq_some_iff.mp hi).1)⟩
    rw [hL]
    exact congrArg some (h i p L hi hL)
theorem intsOf_lens : ∀ (Ds : List (List Nat)), intsOf (Ds.map fun L => V.int L.length) = some (Ds.map fun L => (L.length : Int))
  | [] => rfl
  | L :: Ds => by
    show (intsOf (Ds.map fun L => V.int L.length)).map _ = _
    rw [intsOf_lens Ds]; rfl
theorem take6 {α : Type} (l : List α) : (l.drop 0).take (min 6 l.length - 0) = l.take 6 := by
  rw [List.drop_zero, Nat.sub_zero]
  rcases Nat.le_total 6 l.length with h | h
  · rw [Nat.min_eq_left h]
  · rw [Nat.min_eq_right h, List.take_length, List.take_of_length_le h]
theorem pow7 {j : Nat} (h : j ≤ 6) : 7 ^ j ≤ 117649 := Nat.le_trans (Nat.pow_le_pow_right (by decide) h) (by decide)
theorem pow7' {j : Nat} (h : j < 6) : 7 ^ j ≤ 16807 := Nat.le_trans (Nat.pow_le_pow_right (by decide) (Nat.le_of_lt_succ h)) (by decide)
/-- a number more -/
theorem deal_ok {rs : List Ride} {ts : List Trip} (hR : ∀ r ∈ rs, RideOK r) (hT : ∀ t ∈ ts, TripOK t) (hsz : rs.length + ts.length ≤ 500) {ord : List Nat} (hord : ord.Perm (List.range ts.length)) (hup : ord.Pairwise fun i j => rkOf ts i ≤ rkOf ts j) {j x : Nat} (hj : ord[j]? = some x) {Ls As : List (List Nat)}
    (hD : DealInv ts.length (nbOf (nblOf (roadsOf rs ts) ts)) (ord.take j) Ls) (s : ∀ M ∈ As, ∃ L ∈ Ls, Der (nbOf (nblOf (roadsOf rs ts) ts)) x L M) (c : ∀ L ∈ Ls, Full (nbOf (nblOf (roadsOf rs ts) ts)) x L As) : DealInv ts.length (nbOf (nblOf (roadsOf rs ts) ts)) (ord.take (j + 1)) As := by
  have hnd : ord.Nodup := hord.nodup_iff.mpr List.nodup_range
  have hjl := (List.getElem?_eq_some_iff.mp hj).1
  have pw := List.pairwise_iff_getElem.mp hup
  rw [take_more hj]
  refine DealInv.step (rk := rkOf ts) (nb_trans hR hT hsz) (rk_up hR hT hsz) (fun z => ?_) (fun v hv => ?_) (fun v hv hlt => ?_) hD s c
  · obtain ⟨i, hi⟩ := List.getElem?_of_mem z
    have hi' : i < j := by have := (List.getElem?_eq_some_iff.mp hi).1; rw [List.length_take] at this; omega
    rw [List.getElem?_take_of_lt hi'] at hi
    have := (List.getElem?_inj (by omega) hnd).mp (hi.trans hj.symm)
    omega
  · obtain ⟨i, hi⟩ := List.getElem?_of_mem hv
    have hi' : i < j := by have := (List.getElem?_eq_some_iff.mp hi).1; rw [List.length_take] at this; omega
    rw [List.getElem?_take_of_lt hi'] at hi
    obtain ⟨h1, e1⟩ := List.getElem?_eq_some_iff.mp hi
    obtain ⟨h2, e2⟩ := List.getElem?_eq_some_iff.mp hj
    have := pw i j h1 h2 hi'
    rw [e1, e2] at this; exact this
  · obtain ⟨i, hi⟩ := List.getElem?_of_mem (hord.mem_iff.mpr (List.mem_range.mpr hv))
    obtain ⟨h1, e1⟩ := List.getElem?_eq_some_iff.mp hi
    obtain ⟨h2, e2⟩ := List.getElem?_eq_some_iff.mp hj
    rcases Nat.lt_trichotomy i j with h | h | h
    · exact List.mem_of_getElem? ((List.getElem?_take_of_lt h).trans hi)
    · subst h; rw [e1] at e2; subst e2; exact absurd hlt (Nat.lt_irrefl _)
    · have := pw j i h2 h1 h
      rw [e1, e2] at this
      exact absurd hlt (Nat.not_lt_of_le this)
theorem law_10_true (a : Addr) (ns : List Int) (hz : ns.length ≤ 63) : specAt P 30 58 [.ref a] (σ0 a ns) fun v _ => v = .bool true := by
  have ha : (σ0 a ns) a = some (.list false (ns.map .int)) := if_pos rfl
  obtain ⟨names, rs, ts0, hB, hbuilt⟩ := law_built_ok hz
  have hR := fun r h => (hB.rides r h).1
  have hT0 := fun t h => (hB.trips t h).1
  have hfT := hB.fewT
  have hsz0 : rs.length + ts0.length ≤ 500 := by have := hB.fewR; omega
  have lr : (rs.map rideV).length ≤ 1000000 := by rw [List.length_map]; omega
  refine spec_of (xs := f_law_10) rfl rfl ?_
  unfold f_law_10
  refine st_manyE (wp_call (vs := [.ref a]) rfl (hbuilt _ _ _ _ _ ha fun dn dr dt0 σ₁ e₁ hdn hdr hdt0 => ⟨_, rfl, ?_⟩))
  clear e₁ ha hdn
  refine st_asgE ⟨.ref dt0, rfl, dt0, true, ts0.map tripV, 0, min 6 (ts0.map tripV).length, rfl, hdt0, by rw [List.length_map]; omega, rfl, rfl, fun dt hdt => ?_⟩
  rw [take6, ← List.map_take]
  have x1 := Ext.new (o := .list true ((ts0.take 6).map tripV)) hdt
  have kt : (σ₁.set dt (.list true ((ts0.take 6).map tripV))) dt = some (.list true ((ts0.take 6).map tripV)) := set_self
  have hdr := x1 _ _ hdr
  generalize σ₁.set dt (.list true ((ts0.take 6).map tripV)) = σ₂ at kt hdr ⊢
  have hT : ∀ t ∈ ts0.take 6, TripOK t := fun t h => hT0 t (List.mem_of_mem_take h)
  have h6 : (ts0.take 6).length ≤ 6 := by rw [List.length_take]; exact Nat.min_le_left _ _
  have hsz : rs.length + (ts0.take 6).length ≤ 500 := by rw [List.length_take]; omega
  generalize ts0.take 6 = ts at kt hT h6 hsz ⊢
  clear x1 hdt hdt0 hT0 hsz0 hfT hbuilt hB
  have lt : (ts.map tripV).length ≤ 1000000 := by rw [List.length_map]; omega
  refine st_asgE (wp_call (vs := [.ref dr, .ref dt]) rfl (law_roads_ok hdr kt (by omega) fun dl hdl => ?_))
  have x2 := Ext.new (o := .list true ((roadsOf rs ts).map rideV)) hdl
  have kl : (σ₂.set dl (.list true ((roadsOf rs ts).map rideV))) dl = some (.list true ((roadsOf rs ts).map rideV)) := set_self
  have kt := x2 _ _ kt
  have hdr := x2 _ _ hdr
  generalize σ₂.set dl (.list true ((roadsOf rs ts).map rideV)) = σ₃ at kt hdr kl ⊢
  -- the order
  have lenT : ∀ {ρ : Loc}, ρ 1 = some (.ref dt) → evP ρ σ₃ (.len (.var 1)) = some (.int ts.length) := fun h => by
    have := ev_lenL kt lt (ev_var h); rw [List.length_map] at this; exact this
  refine st_asgE ?_
  show wpE _ (.comp (.one 14) _ _) _ _ _
  refine wp_compR (n := (ts.length : Int)) (ev_rng1 (lenT rfl)) (by omega) (fun j => pairV (begOf ts j, (j : Int))) (fun j hj => ?_) fun c1 hc1 => ?_
  · obtain ⟨t, ht⟩ : ∃ t, ts[j]? = some t := ⟨_, List.getElem?_eq_getElem (by omega)⟩
    have hb : begOf ts j = t.2.1 := by unfold begOf; rw [ht]
    rw [hb]
    refine ev_tup (ev_cons (ev_tupAt (l := [.str t.1, .int t.2.1, .str t.2.2.1, .int t.2.2.2]) (by decide) rfl (ev_list kt (Int.natCast_nonneg j) (by rw [Int.toNat_natCast, List.getElem?_map, ht]; rfl) (ev_var rfl) (ev_var rfl)) rfl) (ev_cons (ev_var rfl) ev_nil))
  rw [Int.toNat_natCast]
  refine ⟨c1, true, _, (List.range ts.length).map fun (j : Nat) => (begOf ts j, (j : Int)), rfl, set_self, by rw [List.length_map, List.length_range]; omega, by rw [List.map_map]; rfl, fun ps' hps hpw c2 hc2 => ?_⟩
  obtain ⟨ord, hord, hup, hordV⟩ := order_of hps hpw
  have hol : ord.length = ts.length := by have := hord.length_eq; rw [List.length_range] at this; exact this
  have hps' : ps'.length ≤ 1000000 := by have := hps.length_eq; rw [List.length_map, List.length_range] at this; omega
  refine wp_compL (S := specAt P 29) (it := .cst (.ref c2)) rfl set_self (by rw [List.length_map]; exact hps') (fun v => match v with | .tup [_, y] => y | _ => .none) (fun v hv => ?_) fun dor hdo => ?_
  · obtain ⟨p, _, rfl⟩ := List.mem_map.mp hv
    exact ⟨_, rfl, rfl⟩
  rw [List.map_map, show ((fun v => match v with | .tup [_, y] => y | _ => V.none) ∘ pairV) = fun p : Int × Int => V.int p.2 from rfl, hordV]
  have x3 := ((Ext.new (o := .list true ((List.range ts.length).map fun j => pairV (begOf ts j, (j : Int)))) hc1).trans (Ext.new (o := .list true (ps'.map pairV)) hc2)).trans (Ext.new (o := .list true (iV ord)) hdo)
  generalize hσ5 : Store.set _ dor (.list true (iV ord)) = σ₅ at x3 ⊢
  have ko : σ₅ dor = some (.list true (iV ord)) := by rw [← hσ5]; exact set_self
  have kt := x3 _ _ kt
  have hdr := x3 _ _ hdr
  have kl := x3 _ _ kl
  clear x3 hσ5 lenT hc1 hc2 hdo hps hpw hordV hps'
  -- the deals
  refine st_asgE ?_
  refine fun b0 hb0 d4 hd4 => ?_
  have D0 : RowsAt ((σ₅.set b0 (.list true [])).set d4 (.list true [.ref b0])) d4 [b0] [[]] := by
    have hne : b0 ≠ d4 := live_ne (set_self (σ := σ₅) (p := b0) (o := .list true [])) hd4
    refine ⟨set_self, rfl, fun i p r h h' => ?_⟩
    cases i with
    | zero => cases h; cases h'; exact ⟨hne, by rw [set_ne hne, set_self]; rfl⟩
    | succ i => cases h
  have e0 : Ext σ₅ ((σ₅.set b0 (.list true [])).set d4 (.list true [.ref b0])) := (Ext.new hb0).trans (Ext.new hd4)
  refine st_forL (p := dor) (ev_var rfl) (e0 _ _ ko) (forW_of (fun j ρ' σ' => Ext σ₅ σ' ∧ ρ' 1 = some (.ref dt) ∧ ρ' 2 = some (.ref dl) ∧ ρ' 7 = some (.ref dr) ∧ ∃ d4 ps Ls, ρ' 4 = some (.ref d4) ∧ RowsAt σ' d4 ps Ls ∧ DealInv ts.length (nbOf (nblOf (roadsOf rs ts) ts)) (ord.take j) Ls ∧ Ls.length ≤ 7 ^ j) (fun _ _ _ _ h => ⟨_, h.1 _ _ ko⟩) ?_ ?_ ⟨e0, rfl, rfl, rfl, d4, _, _, rfl, D0, .nil, Nat.le_refl _⟩)
  · rintro j v ρ σ K hv ⟨e, r1, r2, r7, d4, ps, Ls, r4, D, hD, hLz⟩ hn hx
    unfold iV at hv
    rw [List.getElem?_map] at hv
    obtain ⟨x, hx1, rfl⟩ := Option.map_eq_some_iff.mp hv
    have hjl := (List.getElem?_eq_some_iff.mp hx1).1
    have hxt : x < ts.length := List.mem_range.mp (hord.mem_iff.mp (List.mem_of_getElem? hx1))
    have hj6 : j < 6 := by omega
    have hp7 := pow7' hj6
    refine ⟨_, rfl, st_asgE (wp_list rfl fun d8 hd8 => ?_)⟩
    have y1 := Ext.new (o := .list true []) hd8
    have R0 : RowsAt (σ.set d8 (.list true [])) d8 [] [] := ⟨set_self, rfl, fun i p r h => nomatch h⟩
    have e1 := e.trans y1
    refine middle_ok (k := 27) hR hT hsz (e1 _ _ kt) (e1 _ _ kl) (live_ne (e _ _ kt) hd8) (live_ne (e _ _ kl) hd8) (live_ne D.at_ hd8) (D.live hd8) r1 r2 r4 rfl rfl (D.ext y1) (fun L hL => ?_) (by omega) hxt R0 fun ρ₁ σ₁ qs As eρ b1 R1 j1 j2 j3 => ?_
    · have hg := hD.good L hL
      have hlt : ∀ v ∈ L, v < ts.length := fun v hv => List.mem_range.mp (hord.mem_iff.mp (List.mem_of_mem_take (hg.sub v hv)))
      refine ⟨hlt, ?_⟩
      have := nodup_len hg.nd (m := List.range ts.length) fun v hv => List.mem_range.mpr (hlt v hv)
      rw [List.length_range] at this; omega
    have e2 : Ext σ₅ σ₁ := e1.viaB (back_none e hd8) b1
    have hAz : As.length ≤ 7 ^ (j + 1) := by rw [Nat.pow_succ]; omega
    have hp7b := pow7 (j := j + 1) (by omega)
    refine st_asgE (wp_list rfl fun d4' hd4' => ?_)
    have y2 := Ext.new (o := .list true []) hd4'
    have D1 : RowsAt (σ₁.set d4' (.list true [])) d4' [] [] := ⟨set_self, rfl, fun i p r h => nomatch h⟩
    have h8 : (ρ₁.set 4 (.ref d4')) 8 = some (.ref d8) := (eρ 8 (by decide) (by decide)).trans rfl
    refine once_ok (S := specAt P 29) rfl h8 (R1.ext y2) (live_ne R1.at_ hd4') (R1.live hd4') (by omega) D1 fun ρ₂ σ₂ ps' Ds eρ2 b2 D2 _ k2 k3 => ?_
    have g : ∀ i, i ≠ 9 → i ≠ 12 → i ≠ 4 → i ≠ 5 → i ≠ 8 → ρ₂ i = ρ i := fun i h1 h2 h3 h4 h5 => by
      rw [eρ2 i h1]
      show (if i = 4 then _ else ρ₁ i) = _
      rw [if_neg h3, eρ i h1 h2]
      show (if i = 8 then _ else if i = 5 then _ else ρ i) = _
      rw [if_neg h5, if_neg h4]
    refine st_nil (S := specAt P 29) (hn _ _ ⟨(e2.trans y2).viaB (back_none e2 hd4') b2, (g 1 (by decide) (by decide) (by decide) (by decide) (by decide)).trans r1, (g 2 (by decide) (by decide) (by decide) (by decide) (by decide)).trans r2, (g 7 (by decide) (by decide) (by decide) (by decide) (by decide)).trans r7, d4', ps', Ds, ?_, D2, ?_, by omega⟩)
    · exact (eρ2 4 (by decide)).trans rfl
    · exact (deal_ok hR hT hsz hord hup hx1 hD j1 j2).same k2
  · rintro ρ σ ⟨e, r1, r2, r7, d4, ps, Ls, r4, D, hD, hLz⟩
    unfold iV at hD hLz
    rw [List.length_map] at hD hLz
    rw [List.take_length] at hD
    have hLz : Ls.length ≤ 117649 := Nat.le_trans hLz (pow7 (by omega))
    refine st_manyE ⟨.ref dr, r7, rs.map rideV, seq_list (e _ _ hdr), lr, fun d1 hd1 => ?_⟩
    have z1 := Ext.new (o := .list true (rs.map rideV)) hd1
    refine ⟨.ref dt, r1, ts.map tripV, seq_list (z1 _ _ (e _ _ kt)), lt, fun d2 hd2 => ?_⟩
    have z2 := Ext.new (o := .list true (ts.map tripV)) hd2
    dsimp only [we_nil]
    refine plan_ok (k := 25) hR hT hsz (by omega) (z2 _ _ set_self) set_self fun drw qs rows da A σ₆ e6 hrows _ _ _ _ _ hP => ⟨_, rfl, ?_⟩
    have D6 := ((D.ext z1).ext z2).ext e6
    obtain ⟨hlo, L0, hL0, hL0e⟩ := hD.fin hord hP
    have hrl : rows.length ≤ 1000 := by
      have := hP.perm.length_eq
      rw [List.length_range] at this
      have h1 : ∀ (L : List (List Nat)), (∀ r ∈ L, r ≠ []) → L.length ≤ L.flatten.length := by
        intro L
        induction L with
        | nil => intro _; exact Nat.le_refl _
        | cons r L ih =>
          intro h
          have := ih fun s hs => h s (.tail _ hs)
          rw [List.flatten_cons, List.length_append, List.length_cons]
          have : r.length ≠ 0 := fun z => h r (.head _) (List.length_eq_zero_iff.mp z)
          omega
      have := h1 rows hP.some_
      omega
    refine st_retE ?_
    dsimp only [we_cmp]
    refine evP_ok (S := specAt P 29) (e := .len (.var 10)) (v := .int rows.length) ?_ ?_
    · have := ev_lenL (ρ := Loc.set (ρ.set 10 (.ref drw)) 11 (.ref da)) (a := .var 10) hrows.at_ (by rw [List.length_map, hrows.len]; omega) rfl
      rw [List.length_map, hrows.len] at this; exact this
    show wpE _ (.comp _ _ _) _ _ _
    refine wp_compL (p := d4) (ev_var r4) D6.at_ (by rw [List.length_map, D6.len]; omega) (fun v => match v with | .ref p => (match σ₆ p with | some (.list _ l) => .int l.length | _ => .none) | _ => .none) (fun v hv => ?_) fun c hc => ?_
    · obtain ⟨p, hp, rfl⟩ := List.mem_map.mp hv
      obtain ⟨i, hi⟩ := List.getElem?_of_mem hp
      obtain ⟨L, hL⟩ : ∃ L, Ls[i]? = some L := ⟨_, List.getElem?_eq_getElem (by rw [← D6.len]; exact (List.getElem?_eq_some_iff.mp hi).1)⟩
      have hpr := (D6.row i p L hi hL).2
      refine ⟨_, rfl, ?_⟩
      show _ = some (match σ₆ p with | some (.list _ l) => V.int l.length | _ => V.none)
      rw [hpr]
      refine ev_lenL hpr ?_ rfl
      have hg := hD.good L (List.mem_of_getElem? hL)
      have := nodup_len hg.nd hg.sub
      rw [List.length_map]; omega
    rw [lens_rows D6.len fun i p L hi hL => by
      show (match σ₆ p with | some (.list _ l) => V.int l.length | _ => .none) = _
      rw [(D6.row i p L hi hL).2]
      show V.int (List.map _ L).length = _
      rw [List.length_map]]
    cases Ls with
    | nil => cases hL0
    | cons L1 Ls =>
      refine ⟨c, true, _, L1.length, Ls.map fun L => (L.length : Int), rfl, set_self, by rw [List.length_map]; omega, intsOf_lens _, true, eqI_t ?_, rfl⟩
      refine (foldl_min (w := (rows.length : Int)) (fun y hy => ?_) ?_).symm
      · obtain ⟨L, hL, rfl⟩ := List.mem_map.mp (show y ∈ (L1 :: Ls).map fun L => (L.length : Int) from hy)
        exact Int.ofNat_le.mpr (hlo L hL)
      · show (rows.length : Int) ∈ (L1 :: Ls).map fun L => (L.length : Int)
        exact List.mem_map.mpr ⟨L0, hL0, by rw [hL0e]⟩
end Mine

set_option Elab.async false
namespace Mine
open PySem PySem.W PyProof.Rows
noncomputable def CS : List (Str × V) := [(Str.ofString "LETTERS", .str (Str.ofString "abcdefghijklmnopqrstuvwxyz")), (Str.ofString "MOST_LETTERS", .int 12), (Str.ofString "MOST_MINUTE", .int 99999), (Str.ofString "MOST_RIDE", .int 9999)]
noncomputable def IDS : List (Str × Nat) := [(Str.ofString "is_whole", 0), (Str.ofString "is_place", 1), (Str.ofString "is_ride", 2), (Str.ofString "is_trip", 3), (Str.ofString "need_all", 4), (Str.ofString "all_roads", 6), (Str.ofString "least_from", 7), (Str.ofString "followers", 36), (Str.ofString "is_placed", 37), (Str.ofString "paired", 38), (Str.ofString "rows_of", 39), (Str.ofString "apart_of", 40), (Str.ofString "plan", 41), (Str.ofString "_law_cell_at", 10), (Str.ofString "_law_names", 11), (Str.ofString "_law_rides", 12), (Str.ofString "_law_trips", 13), (Str.ofString "_law_roads", 14), (Str.ofString "_law_least", 22), (Str.ofString "_law_can", 30), (Str.ofString "_law_built", 15), (Str.ofString "law", 58)]
/-- the part of the text that is looked at -/
noncomputable def VW : Program := PySem.W.view PySem.Challenge.pw_uf040028_10 [1, 2, 3, 5, 6, 7, 8, 9, 10, 11, 12, 13, 15, 16, 18, 19, 20, 21, 22, 23, 25, 26, 27, 28, 29, 30, 31, 32, 33]
end Mine
open PySem PySem.W PyProof.Rows Mine
set_option maxRecDepth 100000
set_option maxHeartbeats 8000000
theorem Mine.said_ok : PySem.Challenge.rw_uf040028_10.wellSaid = true := by
  first
  | rw [Fast.te9446332074065402090]
    delta Fast.tw9446332074065402090
    iterate 18 (refine look_both ?_ (by decide +kernel))
    delta Fast.tw17960256430627541270
    iterate 2 (refine look_both ?_ (by decide +kernel))
    delta Fast.tw2436336058641802641
    iterate 13 (refine look_both ?_ (by decide +kernel))
    delta Fast.tw12908688711261696721
    iterate 5 (refine look_both ?_ (by decide +kernel))
    decide +kernel
  | decide +kernel
theorem Mine.left_boot {H : Heap} {g : Array GenState} {d : Drawn} {n : Nat} {β : Type} {G : Shared → Option Shared} {F : Shared → β} {r : Option β} : ∀ {x : Option Shared}, x.map (fun s => (s.heap, s.gens, s.drawn, s.toks)) = some (H, g, d, n) → (∀ os, (G ⟨H, g, d, n, os⟩).map F = r) → (x.bind G).map F = r
  | none, h, _ => nomatch h
  | some s, h, K => (congrArg (fun t : Heap × Array GenState × Drawn × Nat => (G ⟨t.1, t.2.1, t.2.2.1, t.2.2.2, s.os⟩).map F) (Option.some.inj h)).trans (K s.os)
theorem Mine.left_ok : LeftO PySem.Challenge.pw_uf040028_10 VW [] (fun s => xlAt VW [] s && recOk (RowW.records (OpenRow.toRowW (OpenLaw.row PySem.Challenge.rw_uf040028_10))) s) (Hook.obs Hook.none) (Hook.val Hook.none) 4500 := by
  intro w
  refine left_boot (boot_open (by kernel_rfl) rfl (fun s => by kernel_rfl) w) fun os => ?_
  first
  | delta topFrom openGood
    rw [Fast.te14082659384304107361, Fast.te14364793385576792824, Fast.te4187177175401517315, Fast.te821141287760084731, Fast.te3247288618530077131]
    kernel_rfl
  | kernel_rfl
theorem PySem.Challenge.cw_uf040028_10_holds : PySem.Challenge.rw_uf040028_10.Holds := by
  w_on
  refine holds_law said_ok fun said => ?_
  refine holds_open (q := VW) (loose := []) (Xt := fun s => xlAt VW [] s && recOk (RowW.records (OpenRow.toRowW (OpenLaw.row PySem.Challenge.rw_uf040028_10))) s) (XP := XL VW []) (Yf := Hook.obs Hook.none) (Ya := Hook.val Hook.none) (YP := Hook.says Hook.none) (N := 4500) left_ok (Hook.of Hook.none) (Hook.keeps Hook.none) (fun s e => xl_of s (Bool.and_eq_true_iff.mp e).1) XL.keeps (by rfl) (by rfl) (by rfl) (fun s e => recFacts_of (Bool.and_eq_true_iff.mp e).2) (by rfl) (by first | assumption | decide +kernel) (by decide +kernel) ⟨rfl, rfl, rfl, rfl, rfl, by decide +kernel⟩ ?hw ?hc
  case hw => w_witness2
  intro w s₀ s₁ mg mb G Y fa o pm cd doc dV kV ho hd hcd hD hmg hg args vals as hpre hlay hrd hwl hlo
  refine Ground.open G ?_
  intro T B D TE TW
  have TO := top_ok (cs := CS) (ids := IDS) T (by decide +kernel) bi_boot
  have FO := fns_ok (P := P) (prog := PySem.Challenge.pw_uf040028_10) (w := w) T TO (by
    unfold IDS
    simp only [List.forall_mem_cons]
    exact ⟨⟨v_is_whole, by decide +kernel⟩,
      ⟨v_is_place, by decide +kernel⟩,
      ⟨v_is_ride, by decide +kernel⟩,
      ⟨v_is_trip, by decide +kernel⟩,
      ⟨v_need_all, by decide +kernel⟩,
      ⟨v_all_roads, by decide +kernel⟩,
      ⟨v_least_from, by decide +kernel⟩,
      ⟨v_followers, by decide +kernel⟩,
      ⟨v_is_placed, by decide +kernel⟩,
      ⟨v_paired, by decide +kernel⟩,
      ⟨v_rows_of, by decide +kernel⟩,
      ⟨v_apart_of, by decide +kernel⟩,
      ⟨v_plan, by decide +kernel⟩,
      ⟨v_law_cell_at, by decide +kernel⟩,
      ⟨v_law_names, by decide +kernel⟩,
      ⟨v_law_rides, by decide +kernel⟩,
      ⟨v_law_trips_03, by decide +kernel⟩,
      ⟨v_law_roads, by decide +kernel⟩,
      ⟨v_law_least, by decide +kernel⟩,
      ⟨v_law_can, by decide +kernel⟩,
      ⟨v_law_built, by decide +kernel⟩,
      ⟨v_law_10, by decide +kernel⟩, fun _ h => nomatch h⟩)
  have hmg' : mg (Str.ofString "law") = some (.ref fa) := hmg
  have hfa : (glOf CS IDS mg).fns.lookup (Str.ofString "law") = some (58, fa) := by
    rw [gl_look, show IDS.lookup (Str.ofString "law") = some 58 by decide +kernel]
    show some (58, adOf mg (Str.ofString "law")) = _
    unfold adOf; rw [hmg']
  wrow_args hpre hlay hrd hwl hlo
  refine enter_call ?_
  rename Heap.IsList _ _ _ => hL
  rename IntsAre _ _ => hI
  rename (¬ _ < _) => hc
  refine law_call (spec_ok TO FO 30) ⟨rfl, by decide, by decide⟩ hfa hL hI (by omega) (low_of T) (law_10_true _ _ (by omega)) fun s' hb hos hgs => ?_
  refine GoodW.toG ⟨.inl ⟨.bool true, .bool true, [], rfl, fun _ => rfl, .bool true, ?_, fun _ => ⟨.nil, by simp⟩⟩, hb, hos, by rw [hgs, hg]⟩
  first | kernel_rfl | with_unfolding_all rfl | (simp [OpenLaw.row, OpenRow.toRowW]; done)
