import PyProof.Rows.All
import PyProof.DictKinds
import PyProof.DictList
import PyProof.PlainList
import PyProof.Cells
import PyProof.RangeIter
import OpenK.AllK
import Wide.All
import Wide.FinOn
import PySem.Challenge.RW_uf040028_03
set_option Elab.async false
set_option linter.all false
namespace Mine
open PySem

/-- plain values: ints, strs, bools, None, tuples, ranges by value; lists and dicts by address -/
inductive V where
  | none
  | bool (b : Bool)
  | int (i : Int)
  | str (x : Str)
  | tup (l : List V)
  | rng (a b : Int)
  | ref (a : Addr)

/-- an object, and whether it may be changed just now -/
inductive O where
  | list (m : Bool) (l : List V)
  | ds (m : Bool) (es : List (Str × V))
  | di (m : Bool) (es : List (Int × V))
noncomputable def O.mut : O → Bool
  | .list m _ => m
  | .ds m _ => m
  | .di m _ => m
noncomputable def O.frz : O → O
  | .list _ l => .list false l
  | .ds _ es => .ds false es
  | .di _ es => .di false es

abbrev Store := Addr → Option O
abbrev Loc := Nat → Option V
noncomputable def Store.set (σ : Store) (a : Addr) (o : O) : Store := fun b => if b = a then some o else σ b
noncomputable def Loc.set (ρ : Loc) (i : Nat) (v : V) : Loc := fun j => if j = i then some v else ρ j

inductive BOp where | add | sub | mul | fdiv | mod
inductive COp where | eq | ne | lt | le | gt | ge | isin | notin | is
inductive Ty where | int | bool | str | tuple | list | dict
inductive Tgt where
  | one (i : Nat)
  | many (is : List Nat)

inductive X where
  | var (i : Nat)
  | cst (v : V)
  | gl (x : Str) (v : V)
  | bin (o : BOp) (a b : X)
  | cmp (o : COp) (a b : X)
  | cmp2 (o p : COp) (a b c : X)
  | and (a b : X)
  | or (a b : X)
  | not (a : X)
  | sub (a i : X)
  | slc (a lo hi : X)
  | rev (a : X)
  | list (es : List X)
  | tup (es : List X)
  | dict0
  | dict1 (k v : X)
  | comp (t : Tgt) (it elt : X)
  | compIf (t : Tgt) (it c elt : X)
  | call (f : Nat) (args : List X)
  | len (a : X)
  | listOf (a : X)
  | dictOf (a : X)
  | tupleOf (a : X)
  | isi (a : X) (t : Ty)
  | max2 (a b : X)
  | minOf (a : X)
  | sorted (a : X)
  | rng1 (b : X)
  | rng2 (a b : X)
  | append (o a : X)
  | insert0 (o a : X)
  | pop (o : X)
  | get1 (o k : X)
  | get2 (o k d : X)

inductive S where
  | expr (e : X)
  | asg (t : Tgt) (e : X)
  | setItem (o i e : X)
  | ret (e : X)
  | ite (c : X) (a b : List S)
  | for (t : Tgt) (it : X) (body : List S)
  | forEnum (t : Tgt) (it : X) (body : List S)
  | while (c : X) (body : List S)
  | stop

inductive Fl where
  | next
  | ret (v : V)

abbrev Post := V → Store → Prop
abbrev FPost := Fl → Loc → Store → Prop
abbrev Spec := Nat → List V → Store → Post → Prop


noncomputable def itemsOf (σ : Store) : V → Option (List V)
  | .tup l => some l
  | .ref a => match σ a with
    | some (.list _ l) => some l
    | _ => Option.none
  | _ => Option.none

noncomputable def put {K : Type} [DecidableEq K] (es : List (K × V)) (k : K) (v : V) : List (K × V) :=
  if es.any (fun e => e.1 = k) then es.map (fun e => if e.1 = k then (e.1, v) else e) else es ++ [(k, v)]
noncomputable def look {K : Type} [DecidableEq K] (es : List (K × V)) (k : K) : Option V := (es.find? fun e => e.1 = k).map (·.2)

noncomputable def bindMany : List Nat → List V → Loc → Option Loc
  | [], [], ρ => some ρ
  | i :: is, v :: vs, ρ => bindMany is vs (ρ.set i v)
  | _, _, _ => Option.none
noncomputable def bindT : Tgt → V → Loc → Option Loc
  | .one i, v, ρ => some (ρ.set i v)
  | .many is, .tup l, ρ => bindMany is l ρ
  | _, _, _ => Option.none

/-- new object: whatever free address it gets -/
noncomputable def fresh (σ : Store) (o : O) (Q : Post) : Prop := ∀ a, σ a = Option.none → Q (.ref a) (σ.set a o)

noncomputable def strAt (x : Str) (k : Nat) : Option Str := (x.cps.toList[k]?).map fun c => ⟨#[c]⟩
noncomputable def strRep (x : Str) (n : Nat) : Str := ⟨(List.replicate n x.cps.toList).flatten.toArray⟩
noncomputable def rngItems (a b : Int) : List V := (List.range (b - a).toNat).map fun (k : Nat) => V.int (a + (k : Int))
noncomputable def strItems (x : Str) : List V := x.cps.toList.map fun c => V.str ⟨#[c]⟩

noncomputable def wpBin (o : BOp) (a b : V) (σ : Store) (Q : Post) : Prop :=
  match o, a, b with
  | .add, .int i, .int j => Q (.int (i + j)) σ
  | .sub, .int i, .int j => Q (.int (i - j)) σ
  | .mul, .int i, .int j => (i.natAbs < 2 ^ 60 ∨ j.natAbs < 2 ^ 60) ∧ Q (.int (i * j)) σ
  | .fdiv, .int i, .int j => 0 < j ∧ j < 2 ^ 30 ∧ Q (.int (i / j)) σ
  | .mod, .int i, .int j => 0 < j ∧ Q (.int (i % j)) σ
  | .add, .str x, .str y => x.length + y.length ≤ 1000000 ∧ Q (.str (x ++ y)) σ
  | .mul, .str x, .int n => 0 ≤ n ∧ n ≤ 1000000 ∧ x.length ≤ 12 ∧ Q (.str (strRep x n.toNat)) σ
  | .add, .ref p, .ref q => ∃ l l', σ p = some (.list true l) ∧ σ q = some (.list true l') ∧ l.length + l'.length ≤ 1000000 ∧ fresh σ (.list true (l ++ l')) Q
  | _, _, _ => False

/-- what a value reads as, to a depth -/
noncomputable def datL (f : V → Option PyData) : List V → Option (List PyData)
  | [] => some []
  | v :: r => match f v, datL f r with
    | some d, some ds => some (d :: ds)
    | _, _ => Option.none
noncomputable def datB : V → Option PyData
  | .none => some .none
  | .bool b => some (.bool b)
  | .int i => some (.int i)
  | .str x => if PyData.strOk x = true then some (.str x) else Option.none
  | _ => Option.none
noncomputable def dat (σ : Store) : Nat → V → Option PyData
  | 0 => datB
  | n + 1 => fun v => match v with
    | .tup l => (datL (dat σ n) l).map .tuple
    | .ref a => match σ a with
      | some (.list _ l) => (datL (dat σ n) l).map .list
      | _ => Option.none
    | v => datB v

noncomputable def intsOf : List V → Option (List Int)
  | [] => some []
  | .int i :: r => (intsOf r).map (i :: ·)
  | _ => Option.none

/-- == of two dicts of ints: told where they are alike -/
noncomputable def eqD (es es' : List (Str × V)) : Option Bool :=
  match intsOf (es.map (·.2)), intsOf (es'.map (·.2)) with
  | some a, some b => if es.map (·.1) = es'.map (·.1) ∧ a = b then some true else Option.none
  | _, _ => Option.none

/-- == of two values that read as data -/
noncomputable def eqT (σ : Store) (a b : V) : Option Bool :=
  match dat σ 4 a, dat σ 4 b with
  | some d, some e => some (PyData.eqv d e)
  | _, _ => Option.none
/-- == of two values -/
noncomputable def eqV (σ : Store) (a b : V) : Option Bool :=
  match a, b with
  | .str x, .str y => some (decide (x = y))
  | .int x, .int y => some (decide (x = y))
  | .ref a, .ref b => match σ a, σ b with
    | some (.ds _ es), some (.ds _ es') => eqD es es'
    | _, _ => eqT σ (.ref a) (.ref b)
  | a, b => eqT σ a b

/-- in, over a list -/
noncomputable def inL (σ : Store) (a : V) (l : List V) : Option Bool :=
  match datL (dat σ 2) l, dat σ 2 a with
  | some ds, some d => some (ds.any fun y => PyData.eqv y d)
  | _, _ => Option.none

noncomputable def subStr (y x : Str) : Bool := !(Builtin.Str.occurrences x y 0 x.length 1).isEmpty

noncomputable def inV (σ : Store) (a b : V) : Option Bool :=
  match b with
  | .ref p => match σ p with
    | some (.list _ l) => inL σ a l
    | some (.ds _ es) => match a with
      | .str k => some (look es k).isSome
      | _ => Option.none
    | some (.di _ es) => match a with
      | .int k => some (look es k).isSome
      | _ => Option.none
    | _ => Option.none
  | .str x => match a with
    | .str y => some (subStr y x)
    | _ => Option.none
  | _ => Option.none

noncomputable def cmpV (o : COp) (a b : V) (σ : Store) : Option Bool :=
  match o with
  | .eq => eqV σ a b
  | .ne => (eqV σ a b).map (!·)
  | .isin => inV σ a b
  | .notin => (inV σ a b).map (!·)
  | .is => match a, b with
    | .none, .none => some true
    | .ref _, .none => some false
    | _, _ => Option.none
  | .lt => match a, b with | .int i, .int j => some (decide (i < j)) | _, _ => Option.none
  | .le => match a, b with | .int i, .int j => some (decide (i ≤ j)) | _, _ => Option.none
  | .gt => match a, b with | .int i, .int j => some (decide (i > j)) | _, _ => Option.none
  | .ge => match a, b with | .int i, .int j => some (decide (i ≥ j)) | _, _ => Option.none

noncomputable def idxL (l : List V) (i : Int) : Option V := if 0 ≤ i then l[i.toNat]? else if -i ≤ l.length then l[(l.length + i).toNat]? else Option.none

noncomputable def subV (σ : Store) (a i : V) : Option V :=
  match a, i with
  | .tup l, .int i => idxL l i
  | .str x, .int i => if 0 ≤ i ∧ i < 1000 then (strAt x i.toNat).map .str else Option.none
  | .ref p, i => match σ p, i with
    | some (.list _ l), .int i => idxL l i
    | some (.ds _ es), .str k => look es k
    | some (.di _ es), .int k => look es k
    | _, _ => Option.none
  | _, _ => Option.none

/-- a cut's ends: none is open, below nought from the end -/
noncomputable def cutAt (n : Nat) (d : Nat) : V → Option Nat
  | .none => some d
  | .int i => some (if 0 ≤ i then min i.toNat n else (n + i).toNat)
  | _ => Option.none

noncomputable def tyV (σ : Store) (v : V) (t : Ty) : Option Bool :=
  match v with
  | .none => some false
  | .bool _ => some (match t with | .int => true | .bool => true | _ => false)
  | .int _ => some (match t with | .int => true | _ => false)
  | .str _ => some (match t with | .str => true | _ => false)
  | .tup _ => some (match t with | .tuple => true | _ => false)
  | .ref a => match σ a with
    | some (.list ..) => some (match t with | .list => true | _ => false)
    | some (.ds ..) => some (match t with | .dict => true | _ => false)
    | some (.di ..) => some (match t with | .dict => true | _ => false)
    | _ => Option.none
  | _ => Option.none

noncomputable def lenV (σ : Store) : V → Option Nat
  | .tup l => some l.length
  | .str x => some x.length
  | .ref a => match σ a with
    | some (.list _ l) => some l.length
    | some (.ds _ es) => some es.length
    | some (.di _ es) => some es.length
    | _ => Option.none
  | _ => Option.none

noncomputable def pairsOf : List V → Option (List (Int × Int))
  | [] => some []
  | .tup [.int i, .int j] :: r => (pairsOf r).map ((i, j) :: ·)
  | _ => Option.none

/-- what list(..) takes -/
noncomputable def seqOf (σ : Store) : V → Option (List V)
  | .ref a => match σ a with
    | some (.list _ l) => some l
    | _ => Option.none
  | .rng a b => if -1000000 ≤ a ∧ a ≤ 1000000 ∧ -1000000 ≤ b ∧ b ≤ 1000000 then some (rngItems a b) else Option.none
  | _ => Option.none

/-- where a loop goes: the items, and what must stand unchanged at each turn -/
inductive Src (σ : Store) : V → List V → (Store → Prop) → Prop where
  | list {a m l} : σ a = some (.list m l) → Src σ (.ref a) l fun σ' => ∃ m', σ' a = some (.list m' l)
  | rng {a b} : -1000000 ≤ a ∧ a ≤ 1000000 ∧ -1000000 ≤ b ∧ b ≤ 1000000 → Src σ (.rng a b) (rngItems a b) fun _ => True
  | str {x} : Src σ (.str x) (strItems x) fun _ => True

/-- the turns of a loop -/
noncomputable def forW (ok : Store → Prop) (body : V → Loc → Store → FPost → Prop) : List V → Loc → Store → FPost → Prop
  | [], ρ, σ, Q => ok σ ∧ Q .next ρ σ
  | v :: r, ρ, σ, Q => ok σ ∧ body v ρ σ fun f ρ' σ' => match f with
    | .next => forW ok body r ρ' σ' Q
    | .ret x => Q (.ret x) ρ' σ'

/-- the turns of a comprehension -/
noncomputable def compW (ok : Store → Prop) (cnd : V → Store → (Bool → Store → Prop) → Prop) (elt : V → Store → Post → Prop) : List V → List V → Store → (List V → Store → Prop) → Prop
  | [], acc, σ, Q => ok σ ∧ Q acc σ
  | v :: r, acc, σ, Q => ok σ ∧ cnd v σ fun b σ₁ => if b = true then elt v σ₁ fun y σ₂ => compW ok cnd elt r (acc ++ [y]) σ₂ Q else compW ok cnd elt r acc σ₁ Q

noncomputable def whileW (c : Loc → Store → (Bool → Store → Prop) → Prop) (body : Loc → Store → FPost → Prop) : Nat → Loc → Store → FPost → Prop
  | 0, _, _, _ => False
  | n + 1, ρ, σ, Q => c ρ σ fun b σ₁ => if b = true then body ρ σ₁ fun f ρ' σ' => match f with
      | .next => whileW c body n ρ' σ' Q
      | .ret x => Q (.ret x) ρ' σ'
    else Q .next ρ σ₁

noncomputable def asBool (Q : Bool → Store → Prop) : Post := fun v σ => match v with | .bool b => Q b σ | _ => False

mutual
noncomputable def wpE (S : Spec) : X → Loc → Store → Post → Prop
  | .var i, ρ, σ, Q => ∃ v, ρ i = some v ∧ Q v σ
  | .cst v, _, σ, Q => Q v σ
  | .gl _ v, _, σ, Q => Q v σ
  | .bin o a b, ρ, σ, Q => wpE S a ρ σ fun va σ₁ => wpE S b ρ σ₁ fun vb σ₂ => wpBin o va vb σ₂ Q
  | .cmp o a b, ρ, σ, Q => wpE S a ρ σ fun va σ₁ => wpE S b ρ σ₁ fun vb σ₂ => ∃ r, cmpV o va vb σ₂ = some r ∧ Q (.bool r) σ₂
  | .cmp2 o p a b c, ρ, σ, Q => wpE S a ρ σ fun va σ₁ => wpE S b ρ σ₁ fun vb σ₂ => ∃ r, cmpV o va vb σ₂ = some r ∧
      if r = true then wpE S c ρ σ₂ fun vc σ₃ => ∃ r', cmpV p vb vc σ₃ = some r' ∧ Q (.bool r') σ₃ else Q (.bool false) σ₂
  | .and a b, ρ, σ, Q => wpE S a ρ σ (asBool fun t σ₁ => if t = true then wpE S b ρ σ₁ Q else Q (.bool false) σ₁)
  | .or a b, ρ, σ, Q => wpE S a ρ σ (asBool fun t σ₁ => if t = true then Q (.bool true) σ₁ else wpE S b ρ σ₁ Q)
  | .not a, ρ, σ, Q => wpE S a ρ σ (asBool fun t σ₁ => Q (.bool !t) σ₁)
  | .sub a i, ρ, σ, Q => wpE S a ρ σ fun va σ₁ => wpE S i ρ σ₁ fun vi σ₂ => ∃ v, subV σ₂ va vi = some v ∧ Q v σ₂
  | .slc a lo hi, ρ, σ, Q => wpE S a ρ σ fun va σ₁ => wpE S lo ρ σ₁ fun vl σ₂ => wpE S hi ρ σ₂ fun vh σ₃ =>
      ∃ p m l i j, va = .ref p ∧ σ₃ p = some (.list m l) ∧ l.length ≤ 1000000 ∧ cutAt l.length 0 vl = some i ∧ cutAt l.length l.length vh = some j ∧ fresh σ₃ (.list true ((l.drop i).take (j - i))) Q
  | .rev a, ρ, σ, Q => wpE S a ρ σ fun va σ₁ => ∃ p m l, va = .ref p ∧ σ₁ p = some (.list m l) ∧ l.length ≤ 1000000 ∧ fresh σ₁ (.list true l.reverse) Q
  | .list es, ρ, σ, Q => wpEs S es ρ σ fun vs σ₁ => fresh σ₁ (.list true vs) Q
  | .tup es, ρ, σ, Q => wpEs S es ρ σ fun vs σ₁ => Q (.tup vs) σ₁
  | .dict0, _, σ, Q => fresh σ (.di true []) Q
  | .dict1 k v, ρ, σ, Q => wpE S k ρ σ fun vk σ₁ => wpE S v ρ σ₁ fun vv σ₂ => ∃ x, vk = .str x ∧ fresh σ₂ (.ds true [(x, vv)]) Q
  | .comp t it elt, ρ, σ, Q => wpE S it ρ σ fun vi σ₁ => ∃ items ok, Src σ₁ vi items ok ∧ items.length ≤ 1000000 ∧
      compW ok (fun v σ Q => (∃ ρ', bindT t v ρ = some ρ') ∧ Q true σ) (fun v σ Q => ∃ ρ', bindT t v ρ = some ρ' ∧ wpE S elt ρ' σ Q) items [] σ₁ fun acc σ₂ => fresh σ₂ (.list true acc) Q
  | .compIf t it c elt, ρ, σ, Q => wpE S it ρ σ fun vi σ₁ => ∃ items ok, Src σ₁ vi items ok ∧ items.length ≤ 1000000 ∧
      compW ok (fun v σ Q => ∃ ρ', bindT t v ρ = some ρ' ∧ wpE S c ρ' σ (asBool Q)) (fun v σ Q => ∃ ρ', bindT t v ρ = some ρ' ∧ wpE S elt ρ' σ Q) items [] σ₁ fun acc σ₂ => fresh σ₂ (.list true acc) Q
  | .call f args, ρ, σ, Q => wpEs S args ρ σ fun vs σ₁ => S f vs σ₁ Q
  | .len a, ρ, σ, Q => wpE S a ρ σ fun va σ₁ => ∃ n, lenV σ₁ va = some n ∧ n ≤ 1000000 ∧ Q (.int n) σ₁
  | .listOf a, ρ, σ, Q => wpE S a ρ σ fun va σ₁ => ∃ items, seqOf σ₁ va = some items ∧ items.length ≤ 1000000 ∧ fresh σ₁ (.list true items) Q
  | .dictOf a, ρ, σ, Q => wpE S a ρ σ fun va σ₁ => ∃ p m es, va = .ref p ∧ σ₁ p = some (.ds m es) ∧ es.length ≤ 1000000 ∧ fresh σ₁ (.ds true es) Q
  | .tupleOf a, ρ, σ, Q => wpE S a ρ σ fun va σ₁ => ∃ p m l, va = .ref p ∧ σ₁ p = some (.list m l) ∧ l.length ≤ 1000000 ∧ Q (.tup l) σ₁
  | .isi a t, ρ, σ, Q => wpE S a ρ σ fun va σ₁ => ∃ r, tyV σ₁ va t = some r ∧ Q (.bool r) σ₁
  | .max2 a b, ρ, σ, Q => wpE S a ρ σ fun va σ₁ => wpE S b ρ σ₁ fun vb σ₂ => ∃ i j, va = .int i ∧ vb = .int j ∧ Q (.int (max i j)) σ₂
  | .minOf a, ρ, σ, Q => wpE S a ρ σ fun va σ₁ => ∃ p m l i r, va = .ref p ∧ σ₁ p = some (.list m l) ∧ l.length ≤ 1000000 ∧ intsOf l = some (i :: r) ∧ Q (.int (r.foldl min i)) σ₁
  | .sorted a, ρ, σ, Q => wpE S a ρ σ fun va σ₁ => ∃ p m l, va = .ref p ∧ σ₁ p = some (.list m l) ∧ l.length ≤ 1000000 ∧
      ((∃ is, intsOf l = some is ∧ fresh σ₁ (.list true ((is.mergeSort (fun a b => decide (a ≤ b))).map .int)) Q) ∨
       (∃ ps, pairsOf l = some ps ∧ fresh σ₁ (.list true ((ps.mergeSort (fun a b => decide (a.1 < b.1 ∨ (a.1 = b.1 ∧ a.2 ≤ b.2)))).map fun p => .tup [.int p.1, .int p.2])) Q))
  | .rng1 b, ρ, σ, Q => wpE S b ρ σ fun vb σ₁ => ∃ j, vb = .int j ∧ Q (.rng 0 j) σ₁
  | .rng2 a b, ρ, σ, Q => wpE S a ρ σ fun va σ₁ => wpE S b ρ σ₁ fun vb σ₂ => ∃ i j, va = .int i ∧ vb = .int j ∧ Q (.rng i j) σ₂
  | .append o a, ρ, σ, Q => wpE S o ρ σ fun vo σ₁ => ∃ p l₀, vo = .ref p ∧ σ₁ p = some (.list true l₀) ∧ wpE S a ρ σ₁ fun va σ₂ => ∃ l, σ₂ p = some (.list true l) ∧ l.length ≤ 1000000 ∧ Q .none (σ₂.set p (.list true (l ++ [va])))
  | .insert0 o a, ρ, σ, Q => wpE S o ρ σ fun vo σ₁ => ∃ p l₀, vo = .ref p ∧ σ₁ p = some (.list true l₀) ∧ wpE S a ρ σ₁ fun va σ₂ => ∃ l, σ₂ p = some (.list true l) ∧ l.length ≤ 1000000 ∧ Q .none (σ₂.set p (.list true (va :: l)))
  | .pop o, ρ, σ, Q => wpE S o ρ σ fun vo σ₁ => ∃ p l v, vo = .ref p ∧ σ₁ p = some (.list true (l ++ [v])) ∧ l.length ≤ 1000000 ∧ Q v (σ₁.set p (.list true l))
  | .get1 o k, ρ, σ, Q => wpE S o ρ σ fun vo σ₁ => ∃ p m es, vo = .ref p ∧ σ₁ p = some (.ds m es) ∧ wpE S k ρ σ₁ fun vk σ₂ => ∃ m' es' x, vk = .str x ∧ σ₂ p = some (.ds m' es') ∧ Q ((look es' x).getD .none) σ₂
  | .get2 o k d, ρ, σ, Q => wpE S o ρ σ fun vo σ₁ => ∃ p m es, vo = .ref p ∧ σ₁ p = some (.ds m es) ∧ wpE S k ρ σ₁ fun vk σ₂ => wpE S d ρ σ₂ fun vd σ₃ => ∃ m' es' x, vk = .str x ∧ σ₃ p = some (.ds m' es') ∧ Q ((look es' x).getD vd) σ₃
noncomputable def wpEs (S : Spec) : List X → Loc → Store → (List V → Store → Prop) → Prop
  | [], _, σ, Q => Q [] σ
  | e :: r, ρ, σ, Q => wpE S e ρ σ fun v σ₁ => wpEs S r ρ σ₁ fun vs σ₂ => Q (v :: vs) σ₂
end

noncomputable def setV (o i v : V) (σ : Store) (Q : Store → Prop) : Prop :=
  ∃ p, o = .ref p ∧ match σ p, i with
    | some (.list true l), .int k => 0 ≤ k ∧ k < l.length ∧ Q (σ.set p (.list true (l.set k.toNat v)))
    | some (.ds true es), .str x => es.length ≤ 1000000 ∧ Q (σ.set p (.ds true (put es x v)))
    | some (.di true es), .int x => es.length ≤ 1000000 ∧ Q (σ.set p (.di true (put es x v)))
    | _, _ => False

/-- a loop over a dict's keys: the dict is shut meanwhile -/
noncomputable def forD (run : List V → Store → FPost → Prop) (v : V) (σ : Store) (Q : FPost) : Prop :=
  ∃ p o keys, v = .ref p ∧ σ p = some o ∧ (match o with | .ds _ es => keys = es.map fun e => V.str e.1 | .di _ es => keys = es.map fun e => V.int e.1 | _ => False) ∧
    run keys (σ.set p o.frz) fun f ρ' σ' => σ' p = some o.frz ∧ Q f ρ' (σ'.set p o)

noncomputable def isDict (σ : Store) : V → Bool
  | .ref p => match σ p with
    | some (.ds ..) => true
    | some (.di ..) => true
    | _ => false
  | _ => false

mutual
noncomputable def wpS (S : Spec) : Mine.S → Loc → Store → FPost → Prop
  | .expr e, ρ, σ, Q => wpE S e ρ σ fun v σ₁ => match v with | .none => Q .next ρ σ₁ | .bool _ => Q .next ρ σ₁ | _ => False
  | .asg t e, ρ, σ, Q => wpE S e ρ σ fun v σ₁ => ∃ ρ', bindT t v ρ = some ρ' ∧ Q .next ρ' σ₁
  | .setItem o i e, ρ, σ, Q => wpE S e ρ σ fun v σ₁ => wpE S o ρ σ₁ fun vo σ₂ => wpE S i ρ σ₂ fun vi σ₃ => setV vo vi v σ₃ fun σ₄ => Q .next ρ σ₄
  | .ret e, ρ, σ, Q => wpE S e ρ σ fun v σ₁ => Q (.ret v) ρ σ₁
  | .ite c a b, ρ, σ, Q => wpE S c ρ σ (asBool fun t σ₁ => if t = true then wpSs S a ρ σ₁ Q else wpSs S b ρ σ₁ Q)
  | .for t it body, ρ, σ, Q => wpE S it ρ σ fun vi σ₁ =>
      if isDict σ₁ vi = true then forD (fun keys σ' Q' => forW (fun _ => True) (fun v ρ σ Q => ∃ ρ', bindT t v ρ = some ρ' ∧ wpSs S body ρ' σ Q) keys ρ σ' Q') vi σ₁ Q
      else ∃ items ok, Src σ₁ vi items ok ∧ forW ok (fun v ρ σ Q => ∃ ρ', bindT t v ρ = some ρ' ∧ wpSs S body ρ' σ Q) items ρ σ₁ Q
  | .forEnum t it body, ρ, σ, Q => wpE S it ρ σ fun vi σ₁ => ∃ p m l, vi = .ref p ∧ σ₁ p = some (.list m l) ∧ l.length ≤ 1000000 ∧
      forW (fun σ' => ∃ m', σ' p = some (.list m' l)) (fun v ρ σ Q => ∃ ρ', bindT t v ρ = some ρ' ∧ wpSs S body ρ' σ Q) (l.zipIdx.map fun x => .tup [.int x.2, x.1]) ρ σ₁ Q
  | .while c body, ρ, σ, Q => ∃ n, whileW (fun ρ σ Q => wpE S c ρ σ (asBool Q)) (fun ρ σ Q => wpSs S body ρ σ Q) n ρ σ Q
  | .stop, _, _, _ => False
noncomputable def wpSs (S : Spec) : List Mine.S → Loc → Store → FPost → Prop
  | [], ρ, σ, Q => Q .next ρ σ
  | s :: r, ρ, σ, Q => wpS S s ρ σ fun f ρ' σ' => match f with
    | .next => wpSs S r ρ' σ' Q
    | .ret v => Q (.ret v) ρ' σ'
end

end Mine

namespace Mine
open PySem

mutual
noncomputable def VRel (h : Heap) : V → Value → Prop
  | .none, v => v = .none
  | .bool b, v => v = .bool b
  | .int i, v => ∃ t, v = .int i t
  | .str x, v => ∃ t, v = .str x t
  | .tup l, v => ∃ a vs n, v = .ref a ∧ h.get? a = some { cls := .type "tuple", data := .seq vs n } ∧ vs.size ≤ 16777216 ∧ VRels h l vs.toList
  | .rng i j, v => ∃ a t u w, v = .ref a ∧ IsRange h a i j 1 t u w
  | .ref a, v => v = .ref a
noncomputable def VRels (h : Heap) : List V → List Value → Prop
  | [], vs => vs = []
  | x :: l, vs => ∃ v r, vs = v :: r ∧ VRel h x v ∧ VRels h l r
end

noncomputable def tupLike (o : Obj) : Prop := (o.cls = .type "tuple" ∨ o.cls = .type "range") ∧ (∀ es ep, o.data ≠ .dict es ep) ∧ ∀ v, o.data ≠ .cell v

mutual
theorem VRel.keep {h h' : Heap} (hk : ∀ a o, h.get? a = some o → tupLike o → h'.get? a = some o) : ∀ {x : V} {v : Value}, VRel h x v → VRel h' x v
  | .none, _, e => by simpa only [VRel] using e
  | .bool _, _, e => by simpa only [VRel] using e
  | .int _, _, e => by simpa only [VRel] using e
  | .str _, _, e => by simpa only [VRel] using e
  | .ref _, _, e => by simpa only [VRel] using e
  | .rng _ _, _, e => by
    simp only [VRel] at e ⊢
    obtain ⟨a, t, u, w, e, g⟩ := e
    exact ⟨a, t, u, w, e, hk _ _ g (by refine ⟨.inr rfl, ?_, ?_⟩ <;> simp)⟩
  | .tup _, _, e => by
    simp only [VRel] at e ⊢
    obtain ⟨a, vs, n, e, g, z, r⟩ := e
    exact ⟨a, vs, n, e, hk _ _ g (by refine ⟨.inl rfl, ?_, ?_⟩ <;> simp), z, VRels.keep hk r⟩
theorem VRels.keep {h h' : Heap} (hk : ∀ a o, h.get? a = some o → tupLike o → h'.get? a = some o) : ∀ {l : List V} {vs : List Value}, VRels h l vs → VRels h' l vs
  | [], _, e => by simpa only [VRels] using e
  | _ :: _, _, e => by
    simp only [VRels] at e ⊢
    obtain ⟨v, r, e, a, b⟩ := e
    exact ⟨v, r, e, VRel.keep hk a, VRels.keep hk b⟩
end

theorem VRels.length {h : Heap} : ∀ {l : List V} {vs : List Value}, VRels h l vs → vs.length = l.length
  | [], _, e => by simp only [VRels] at e; subst e; rfl
  | _ :: _, _, e => by
    simp only [VRels] at e
    obtain ⟨v, r, rfl, _, b⟩ := e
    simp [VRels.length b]
theorem VRels.get {h : Heap} : ∀ {l : List V} {vs : List Value}, VRels h l vs → ∀ {i : Nat} {x : V}, l[i]? = some x → ∃ v, vs[i]? = some v ∧ VRel h x v
  | [], _, _, _, _, q => by simp at q
  | y :: l, _, e, i, x, q => by
    simp only [VRels] at e
    obtain ⟨v, r, rfl, a, b⟩ := e
    cases i with
    | zero => simp at q; subst q; exact ⟨v, rfl, a⟩
    | succ i => simp at q ⊢; exact VRels.get b q
theorem VRels.of_get {h : Heap} : ∀ {l : List V} {vs : List Value}, vs.length = l.length → (∀ (i : Nat) x v, l[i]? = some x → vs[i]? = some v → VRel h x v) → VRels h l vs
  | [], [], _, _ => by simp only [VRels]
  | [], _ :: _, e, _ => by simp at e
  | _ :: _, [], e, _ => by simp at e
  | x :: l, v :: vs, e, q => by
    simp only [VRels]
    exact ⟨v, vs, rfl, q 0 x v rfl rfl, VRels.of_get (by simpa using e) fun i x v a b => q (i + 1) x v (by simpa using a) (by simpa using b)⟩
theorem VRels.append {h : Heap} : ∀ {l : List V} {vs : List Value} {m : List V} {us : List Value}, VRels h l vs → VRels h m us → VRels h (l ++ m) (vs ++ us)
  | [], _, _, _, e, q => by simp only [VRels] at e; subst e; exact q
  | _ :: _, _, _, _, e, q => by
    simp only [VRels] at e
    obtain ⟨v, r, rfl, a, b⟩ := e
    exact ⟨v, r ++ _, rfl, a, VRels.append b q⟩
theorem VRels.one {h : Heap} {x : V} {v : Value} (e : VRel h x v) : VRels h [x] [v] := ⟨v, [], rfl, e, rfl⟩
theorem VRels.cons {h : Heap} {x : V} {v : Value} {l : List V} {vs : List Value} (e : VRel h x v) (r : VRels h l vs) : VRels h (x :: l) (v :: vs) := ⟨v, vs, rfl, e, r⟩
theorem VRels.nil {h : Heap} : VRels h [] [] := rfl

theorem dictOf_at {prog : Program} {w : World} {K : Type} [DecidableEq K] {knd : KeyKind prog w K} {h h' : Heap} {a : Addr} {kvs : List (K × Value)} (x : h.DictOf knd a kvs) (e : ∀ o, h.get? a = some o → h'.get? a = some o) : h'.DictOf knd a kvs :=
  let ⟨o, es, ep, ho, r⟩ := x; ⟨o, es, ep, e _ ho, r⟩

section
variable (prog : Program) (w : World)

noncomputable def DRel {K : Type} [DecidableEq K] (knd : KeyKind prog w K) (h : Heap) (a : Addr) (es : List (K × V)) : Prop :=
  ∃ kvs : List (K × Value), h.DictOf knd a kvs ∧ kvs.map (·.1) = es.map (·.1) ∧ VRels h (es.map (·.2)) (kvs.map (·.2))

noncomputable def ORel (h : Heap) (a : Addr) : O → Prop
  | .list m l => ∃ vs : Array Value, (h.IsList a vs ∧ (m = true → h.PlainList a vs)) ∧ vs.size ≤ 16777216 ∧ VRels h l vs.toList
  | .ds _ es => DRel prog w (strKind prog w) h a es
  | .di _ es => DRel prog w (intKind prog w) h a es
end

noncomputable def O.isD : O → Bool
  | .list .. => false
  | _ => true

section
variable {prog : Program} {w : World}

theorem ORel.keep {h h' : Heap} {a : Addr} {o : O} (e : ORel prog w h a o) (ha : ∀ b, h.get? a = some b → h'.get? a = some b) (hk : ∀ a o, h.get? a = some o → tupLike o → h'.get? a = some o) : ORel prog w h' a o := by
  cases o with
  | list m l => exact let ⟨vs, p, z, r⟩ := e; ⟨vs, ⟨let ⟨o, ho, q⟩ := p.1; ⟨o, ha _ ho, q⟩, fun hm => (p.2 hm).at ha⟩, z, r.keep hk⟩
  | ds m es => exact let ⟨kvs, p, q, r⟩ := e; ⟨kvs, dictOf_at p ha, q, r.keep hk⟩
  | di m es => exact let ⟨kvs, p, q, r⟩ := e; ⟨kvs, dictOf_at p ha, q, r.keep hk⟩

theorem ORel.get {h : Heap} {a : Addr} {o : O} (e : ORel prog w h a o) : ∃ b, h.get? a = some b ∧ ¬ tupLike b ∧ (b.cls = .type "list" ∨ b.cls = .type "dict") := by
  cases o with
  | list m l => obtain ⟨vs, ⟨⟨o, p, hc, _⟩, _⟩, r⟩ := e; exact ⟨_, p, by unfold tupLike; simp [hc], .inl hc⟩
  | ds m es => obtain ⟨kvs, ⟨o, es, ep, ho, hx, r⟩, _⟩ := e; exact ⟨_, ho, by unfold tupLike; simp [hx.1], .inr hx.1⟩
  | di m es => obtain ⟨kvs, ⟨o, es, ep, ho, hx, r⟩, _⟩ := e; exact ⟨_, ho, by unfold tupLike; simp [hx.1], .inr hx.1⟩
theorem ORel.mut {h : Heap} {a : Addr} {o : O} (e : ORel prog w h a o) (hd : o.isD = true) : ORel prog w h a o.frz := by
  cases o with
  | list => cases hd
  | ds => exact e
  | di => exact e
theorem ORel.unfrz {h : Heap} {a : Addr} {o : O} (e : ORel prog w h a o.frz) (hd : o.isD = true) : ORel prog w h a o := by
  cases o with
  | list => cases hd
  | ds => exact e
  | di => exact e
end

/-- what the call has made of the state that it began with -/
structure Core (prog : Program) (w : World) (B : Shared) (σ : Store) (s : Shared) : Prop where
  same : ∃ h tk, s = { B with heap := h, toks := tk }
  base : ∀ b o, B.heap.get? b = some o → s.heap.get? b = some o
  objs : ∀ a o, σ a = some o → ORel prog w s.heap a o
  new : ∀ a o, σ a = some o → (o.mut = true ∨ o.isD = true) → B.heap.get? a = none
  dic : ∀ a o, σ a = some o → o.isD = true → (a == sysModules) = false
  low : ∃ b o, sysModules < b ∧ B.heap.get? b = some o

noncomputable def Own (env : Env) (a : Addr) : Prop := a = env.locals ∨ ∃ x, env.cells.lookup x = some a

structure FrameOK (B : Shared) (vars : List Str) (env : Env) (ρ : Loc) (σ : Store) (h : Heap) : Prop where
  ns : ∃ m, h.Ns env.locals m ∧ ∀ (i : Nat) x v, vars[i]? = some x → ρ i = some v → env.kindOf x = some .local → ∃ u, m x = some u ∧ VRel h v u
  nsObj : ∀ o, h.get? env.locals = some o → ¬ tupLike o
  cell : ∀ (i : Nat) x v, vars[i]? = some x → ρ i = some v → (env.kindOf x = some .cell ∨ env.kindOf x = some .free) → ∃ c u, env.cells.lookup x = some c ∧ h.IsCell c (some u) ∧ VRel h v u
  cells : ∀ x c, env.cells.lookup x = some c → (∃ u, h.IsCell c u) ∧ c ≠ env.locals ∧ ∀ o, h.get? c = some o → ¬ tupLike o
  inj : ∀ x y c, env.cells.lookup x = some c → env.cells.lookup y = some c → x = y
  has : ∀ x, (env.kindOf x = some .cell ∨ env.kindOf x = some .free) → ∃ c, env.cells.lookup x = some c
  own : ∀ a, Own env a → σ a = none ∧ B.heap.get? a = none
  kind : env.scope.kind = .function
  glob : env.globals = mainGlobals
  bltn : env.builtins = builtinsNs

/-- not to be changed -/
noncomputable def Sh (σ : Store) (a : Addr) : Prop := ∀ x, σ a = some x → x.mut = false

structure Step (own : Addr → Prop) (σ : Store) (s : Shared) (σ' : Store) (s' : Shared) : Prop where
  keep : ∀ a o, s.heap.get? a = some o → Sh σ a → ¬ own a → s'.heap.get? a = some o
  no : ∀ a o, s.heap.get? a = some o → σ a = none → ¬ own a → σ' a = none
  shut : ∀ a o, s.heap.get? a = some o → Sh σ a → ¬ own a → Sh σ' a

theorem Sh.of_none {σ : Store} {a : Addr} (h : σ a = none) : Sh σ a := fun x e => by rw [h] at e; cases e

theorem Step.refl {own : Addr → Prop} {σ : Store} {s : Shared} : Step own σ s σ s := ⟨fun _ _ e _ _ => e, fun _ _ _ e _ => e, fun _ _ _ e _ => e⟩
theorem Step.trans {own : Addr → Prop} {σ₁ σ₂ σ₃ : Store} {s₁ s₂ s₃ : Shared} (x : Step own σ₁ s₁ σ₂ s₂) (y : Step own σ₂ s₂ σ₃ s₃) : Step own σ₁ s₁ σ₃ s₃ where
  keep a o e hm ho := y.keep a o (x.keep a o e hm ho) (x.shut a o e hm ho) ho
  no a o e hm ho := y.no a o (x.keep a o e (.of_none hm) ho) (x.no a o e hm ho) ho
  shut a o e hm ho := y.shut a o (x.keep a o e hm ho) (x.shut a o e hm ho) ho
/-- what did not exist at the start need not be told -/
theorem Step.less {own own' : Addr → Prop} {σ σ' : Store} {s s' : Shared} (x : Step own σ s σ' s') (h : ∀ a o, s.heap.get? a = some o → own a → own' a) : Step own' σ s σ' s' where
  keep a o e hm ho := x.keep a o e hm fun q => ho (h a o e q)
  no a o e hm ho := x.no a o e hm fun q => ho (h a o e q)
  shut a o e hm ho := x.shut a o e hm fun q => ho (h a o e q)
theorem Step.more {own own' : Addr → Prop} {σ σ' : Store} {s s' : Shared} (x : Step own σ s σ' s') (h : ∀ a, own a → own' a) : Step own' σ s σ' s' := x.less fun a _ _ q => h a q
theorem Step.fresh {own : Addr → Prop} {σ σ' : Store} {s s' : Shared} (x : Step (fun _ => False) σ s σ' s') : Step own σ s σ' s' := x.more fun _ q => q.elim

section
variable {prog : Program} {w : World} {B : Shared} {σ σ' : Store} {s s' : Shared} {own : Addr → Prop}

theorem Core.none_of_tup (C : Core prog w B σ s) {a : Addr} {o : Obj} (e : s.heap.get? a = some o) (ht : tupLike o) : σ a = none := by
  cases q : σ a with
  | none => rfl
  | some x =>
    obtain ⟨b, hb, hn, _⟩ := (C.objs a x q).get
    rw [hb] at e; cases e; exact absurd ht hn
theorem Step.tups (x : Step own σ s σ' s') (C : Core prog w B σ s) (ho : ∀ a o, own a → s.heap.get? a = some o → ¬ tupLike o) : ∀ a o, s.heap.get? a = some o → tupLike o → s'.heap.get? a = some o :=
  fun a o e ht => x.keep a o e (.of_none (C.none_of_tup e ht)) fun q => ho a o q e ht

theorem Core.heapEq (C : Core prog w B σ s) (h : Heap) (tk : Nat) : ∃ h' tk', ({ s with heap := h, toks := tk } : Shared) = { B with heap := h', toks := tk' } := by
  obtain ⟨h₁, t₁, rfl⟩ := C.same; exact ⟨h, tk, rfl⟩
theorem Core.toks (C : Core prog w B σ s) (tk : Nat) : Core prog w B σ { s with toks := tk } := ⟨C.heapEq _ _, C.base, C.objs, C.new, C.dic, C.low⟩

/-- loose things turn -/
theorem Core.move (C : Core prog w B σ s) (W : Addr → Prop) {h' : Heap} (tk : Nat) (hk : ∀ b o, ¬ W b → s.heap.get? b = some o → h'.get? b = some o)
    (hW : ∀ a o, W a → s.heap.get? a = some o → σ a = none ∧ B.heap.get? a = none ∧ ¬ tupLike o) : Core prog w B σ { s with heap := h', toks := tk } where
  same := C.heapEq _ _
  base b o e := by
    by_cases q : W b
    · have := (hW b o q (C.base b o e)).2.1; rw [this] at e; cases e
    · exact hk b o q (C.base b o e)
  objs a o e := by
    refine (C.objs a o e).keep (fun b hb => ?_) fun c oc hc ht => ?_
    · by_cases q : W a
      · have := (hW a b q hb).1; rw [this] at e; cases e
      · exact hk a b q hb
    · by_cases q : W c
      · exact absurd ht (hW c oc q hc).2.2
      · exact hk c oc q hc
  new := C.new
  dic := C.dic
  low := C.low
theorem Core.keeps (C : Core prog w B σ s) {h' : Heap} (tk : Nat) (hk : ∀ b o, s.heap.get? b = some o → h'.get? b = some o) : Core prog w B σ { s with heap := h', toks := tk } :=
  C.move (fun _ => False) tk (fun b o _ e => hk b o e) fun _ _ q => q.elim
theorem Core.free (C : Core prog w B σ s) {a : Addr} (h : s.heap.get? a = none) : σ a = none ∧ B.heap.get? a = none := by
  constructor
  · cases q : σ a with
    | none => rfl
    | some x => obtain ⟨b, hb, _⟩ := (C.objs a x q).get; rw [hb] at h; cases h
  · cases q : B.heap.get? a with
    | none => rfl
    | some x => rw [C.base a x q] at h; cases h

theorem Core.size (C : Core prog w B σ s) : (s.heap.objs.size == sysModules) = false := by
  obtain ⟨b, o, h1, h2⟩ := C.low
  have := Heap.lt_size (C.base b o h2)
  exact beq_eq_false_iff_ne.mpr (Nat.ne_of_gt (Nat.lt_trans h1 this))
/-- an object turns -/
theorem Core.set (C : Core prog w B σ s) {p : Addr} {o o' : O} {h' : Heap} (tk : Nat) (hp : σ p = some o) (hm : o.mut = true) (hk : ∀ b x, b ≠ p → s.heap.get? b = some x → h'.get? b = some x)
    (hr : ORel prog w h' p o') (hdd : o'.isD = true → (p == sysModules) = false := by intro h; cases h) : Core prog w B (σ.set p o') { s with heap := h', toks := tk } where
  same := C.heapEq _ _
  base b x e := hk b x (fun q => by rw [q, C.new p o hp (.inl hm)] at e; cases e) (C.base b x e)
  objs a x e := by
    by_cases q : a = p
    · subst q; simp only [Store.set, if_true] at e; cases e; exact hr
    · simp only [Store.set, if_neg q] at e
      refine (C.objs a x e).keep (fun b hb => hk a b q hb) fun c oc hc ht => hk c oc (fun z => ?_) hc
      subst z; rw [C.none_of_tup hc ht] at hp; cases hp
  new a x e hx := by
    by_cases q : a = p
    · subst q; exact C.new a o hp (.inl hm)
    · simp only [Store.set, if_neg q] at e; exact C.new a x e hx
  dic a x e hx := by
    by_cases q : a = p
    · subst q; simp only [Store.set, if_true] at e; cases e; exact hdd hx
    · simp only [Store.set, if_neg q] at e; exact C.dic a x e hx
  low := C.low
theorem Core.add (C : Core prog w B σ s) {p : Addr} {o' : O} {h' : Heap} (tk : Nat) (hp : s.heap.get? p = none) (hk : ∀ b x, s.heap.get? b = some x → h'.get? b = some x)
    (hr : ORel prog w h' p o') (hdd : o'.isD = true → (p == sysModules) = false := by intro h; cases h) : Core prog w B (σ.set p o') { s with heap := h', toks := tk } where
  same := C.heapEq _ _
  base b x e := hk b x (C.base b x e)
  objs a x e := by
    by_cases q : a = p
    · subst q; simp only [Store.set, if_true] at e; cases e; exact hr
    · simp only [Store.set, if_neg q] at e
      exact (C.objs a x e).keep (fun b hb => hk a b hb) fun c oc hc _ => hk c oc hc
  new a x e hx := by
    by_cases q : a = p
    · subst q; exact (C.free hp).2
    · simp only [Store.set, if_neg q] at e; exact C.new a x e hx
  dic a x e hx := by
    by_cases q : a = p
    · subst q; simp only [Store.set, if_true] at e; cases e; exact hdd hx
    · simp only [Store.set, if_neg q] at e; exact C.dic a x e hx
  low := C.low
/-- less may be known -/
theorem Core.less (C : Core prog w B σ s) (h : ∀ a o, σ' a = some o → σ a = some o) : Core prog w B σ' s := ⟨C.same, C.base, fun a o e => C.objs a o (h a o e), fun a o e => C.new a o (h a o e), fun a o e => C.dic a o (h a o e), C.low⟩

theorem Step.keeps {h' : Heap} {tk : Nat} (hk : ∀ b o, s.heap.get? b = some o → h'.get? b = some o) : Step own σ s σ { s with heap := h', toks := tk } :=
  ⟨fun a o e _ _ => hk a o e, fun _ _ _ e _ => e, fun _ _ _ e _ => e⟩
theorem Step.move {h' : Heap} {tk : Nat} (hk : ∀ b o, ¬ own b → s.heap.get? b = some o → h'.get? b = some o) : Step own σ s σ { s with heap := h', toks := tk } :=
  ⟨fun a o e _ q => hk a o q e, fun _ _ _ e _ => e, fun _ _ _ e _ => e⟩
theorem Step.set {p : Addr} {o o' : O} {h' : Heap} {tk : Nat} (hp : σ p = some o) (hm : o.mut = true) (hk : ∀ b x, b ≠ p → s.heap.get? b = some x → h'.get? b = some x) : Step own σ s (σ.set p o') { s with heap := h', toks := tk } where
  keep a x e hs _ := hk a x (fun q => by subst q; have := hs o hp; rw [hm] at this; cases this) e
  no a x e hs _ := by
    have q : a ≠ p := fun q => by subst q; rw [hs] at hp; cases hp
    simp only [Store.set, if_neg q]; exact hs
  shut a x e hs _ := by
    have q : a ≠ p := fun q => by subst q; have := hs o hp; rw [hm] at this; cases this
    simp only [Sh, Store.set, if_neg q]; exact hs
theorem Step.add {p : Addr} {o' : O} {h' : Heap} {tk : Nat} (hp : s.heap.get? p = none) (hk : ∀ b x, s.heap.get? b = some x → h'.get? b = some x) : Step own σ s (σ.set p o') { s with heap := h', toks := tk } where
  keep a x e _ _ := hk a x e
  no a x e hs _ := by
    have q : a ≠ p := fun q => by subst q; rw [hp] at e; cases e
    simp only [Store.set, if_neg q]; exact hs
  shut a x e hs _ := by
    have q : a ≠ p := fun q => by subst q; rw [hp] at e; cases e
    simp only [Sh, Store.set, if_neg q]; exact hs
end

structure Sim (prog : Program) (w : World) (B : Shared) (vars : List Str) (env : Env) (ρ : Loc) (σ : Store) (s : Shared) : Prop where
  core : Core prog w B σ s
  frame : FrameOK B vars env ρ σ s.heap

section
variable {prog : Program} {w : World} {B : Shared} {vars : List Str} {env : Env} {ρ : Loc} {σ σ' : Store} {s s' : Shared} {own : Addr → Prop}

theorem FrameOK.notTup {h : Heap} (F : FrameOK B vars env ρ σ h) : ∀ a o, Own env a → h.get? a = some o → ¬ tupLike o := fun a o ha e => by
  rcases ha with rfl | ⟨x, hx⟩
  · exact F.nsObj o e
  · exact (F.cells x a hx).2.2 o e

theorem VRel.step {x : V} {v : Value} (e : VRel s.heap x v) (S : Sim prog w B vars env ρ σ s) (T : Step (Own env) σ s σ' s') : VRel s'.heap x v := e.keep (T.tups S.core S.frame.notTup)
theorem VRels.step {x : List V} {v : List Value} (e : VRels s.heap x v) (S : Sim prog w B vars env ρ σ s) (T : Step (Own env) σ s σ' s') : VRels s'.heap x v := e.keep (T.tups S.core S.frame.notTup)

/-- the frame stands where its own things stand -/
theorem FrameOK.kept {h h' : Heap} (F : FrameOK B vars env ρ σ h) (hk : ∀ a o, Own env a → h.get? a = some o → h'.get? a = some o) (ht : ∀ a o, h.get? a = some o → tupLike o → h'.get? a = some o)
    (hs : ∀ a, Own env a → σ' a = none) : FrameOK B vars env ρ σ' h' where
  ns := by
    obtain ⟨m, hn, hm⟩ := F.ns
    obtain ⟨o, es, ep, ho, r⟩ := hn
    refine ⟨m, ⟨o, es, ep, hk _ _ (.inl rfl) ho, r⟩, fun i x v h1 h2 h3 => ?_⟩
    obtain ⟨u, hu, hv⟩ := hm i x v h1 h2 h3
    exact ⟨u, hu, hv.keep ht⟩
  nsObj o e := by
    obtain ⟨m, hn, hm⟩ := F.ns
    obtain ⟨o', es, ep, ho, r⟩ := hn
    rw [hk _ _ (.inl rfl) ho] at e; cases e; exact F.nsObj _ ho
  cell i x v h1 h2 h3 := by
    obtain ⟨c, u, hc, ⟨o, ho, hd⟩, hv⟩ := F.cell i x v h1 h2 h3
    exact ⟨c, u, hc, ⟨o, hk _ _ (.inr ⟨x, hc⟩) ho, hd⟩, hv.keep ht⟩
  cells x c hc := by
    obtain ⟨⟨u, o, ho, hd⟩, h2, h3⟩ := F.cells x c hc
    refine ⟨⟨u, o, hk _ _ (.inr ⟨x, hc⟩) ho, hd⟩, h2, fun o' e => ?_⟩
    rw [hk _ _ (.inr ⟨x, hc⟩) ho] at e; cases e; exact h3 _ ho
  inj := F.inj
  has := F.has
  own a ha := ⟨hs a ha, (F.own a ha).2⟩
  kind := F.kind
  glob := F.glob
  bltn := F.bltn

theorem FrameOK.exists {h : Heap} (F : FrameOK B vars env ρ σ h) {a : Addr} (ha : Own env a) : ∃ o, h.get? a = some o := by
  rcases ha with rfl | ⟨x, hx⟩
  · obtain ⟨m, ⟨o, es, ep, ho, r⟩, _⟩ := F.ns; exact ⟨o, ho⟩
  · obtain ⟨⟨u, o, ho, hd⟩, _⟩ := F.cells x a hx; exact ⟨o, ho⟩

/-- behind a call: the callee's own things are others -/
theorem Sim.after (S : Sim prog w B vars env ρ σ s) (T : Step own σ s σ' s') (C : Core prog w B σ' s') (ho : ∀ a o, own a → s.heap.get? a = some o → False) : Sim prog w B vars env ρ σ' s' ∧ Step (Own env) σ s σ' s' := by
  have T' : Step (fun _ => False) σ s σ' s' := T.less fun a o e q => ho a o q e
  refine ⟨⟨C, S.frame.kept (fun a o ha e => ?_) (T'.tups S.core fun _ _ q => q.elim) fun a ha => ?_⟩, T'.fresh⟩
  · exact T'.keep a o e (.of_none (S.frame.own a ha).1) fun q => q
  · obtain ⟨o, e⟩ := S.frame.exists ha
    exact T'.no a o e (S.frame.own a ha).1 fun q => q
theorem Sim.toks (S : Sim prog w B vars env ρ σ s) (tk : Nat) : Sim prog w B vars env ρ σ { s with toks := tk } := ⟨S.core.toks tk, S.frame⟩
theorem Step.toks {tk : Nat} : Step own σ s σ { s with toks := tk } := ⟨fun _ _ e _ _ => e, fun _ _ _ e _ => e, fun _ _ _ e _ => e⟩
theorem Sim.keeps (S : Sim prog w B vars env ρ σ s) {h' : Heap} (tk : Nat) (hk : ∀ b o, s.heap.get? b = some o → h'.get? b = some o) : Sim prog w B vars env ρ σ { s with heap := h', toks := tk } ∧ Step (Own env) σ s σ { s with heap := h', toks := tk } :=
  S.after (own := fun _ => False) (Step.keeps hk) (S.core.keeps tk hk) fun _ _ q => q.elim
theorem Sim.set (S : Sim prog w B vars env ρ σ s) {p : Addr} {o o' : O} {h' : Heap} (tk : Nat) (hp : σ p = some o) (hm : o.mut = true) (hk : ∀ b x, b ≠ p → s.heap.get? b = some x → h'.get? b = some x)
    (hr : ORel prog w h' p o') (hdd : o'.isD = true → (p == sysModules) = false := by intro h; cases h) : Sim prog w B vars env ρ (σ.set p o') { s with heap := h', toks := tk } ∧ Step (Own env) σ s (σ.set p o') { s with heap := h', toks := tk } :=
  S.after (own := fun _ => False) (Step.set hp hm hk) (S.core.set tk hp hm hk hr hdd) fun _ _ q => q.elim
theorem Sim.add (S : Sim prog w B vars env ρ σ s) {p : Addr} {o' : O} {h' : Heap} (tk : Nat) (hp : s.heap.get? p = none) (hk : ∀ b x, s.heap.get? b = some x → h'.get? b = some x)
    (hr : ORel prog w h' p o') (hdd : o'.isD = true → (p == sysModules) = false := by intro h; cases h) : Sim prog w B vars env ρ (σ.set p o') { s with heap := h', toks := tk } ∧ Step (Own env) σ s (σ.set p o') { s with heap := h', toks := tk } :=
  S.after (own := fun _ => False) (Step.add hp hk) (S.core.add tk hp hk hr hdd) fun _ _ q => q.elim

/-- a thing of the call's own that was loose so far is told from now on -/
theorem Core.adopt (C : Core prog w B σ s) {p : Addr} {o' : O} {h' : Heap} (tk : Nat) (hs : σ p = none) (hb : B.heap.get? p = none) (hn : ∀ o, s.heap.get? p = some o → ¬ tupLike o) (hk : ∀ b x, b ≠ p → s.heap.get? b = some x → h'.get? b = some x)
    (hr : ORel prog w h' p o') (hdd : o'.isD = true → (p == sysModules) = false := by intro h; cases h) : Core prog w B (σ.set p o') { s with heap := h', toks := tk } where
  same := C.heapEq _ _
  base b x e := hk b x (fun q => by rw [q, hb] at e; cases e) (C.base b x e)
  objs a x e := by
    by_cases q : a = p
    · subst q; simp only [Store.set, if_true] at e; cases e; exact hr
    · simp only [Store.set, if_neg q] at e
      refine (C.objs a x e).keep (fun b hb => hk a b q hb) fun c oc hc ht => hk c oc (fun z => ?_) hc
      subst z; exact hn _ hc ht
  new a x e hx := by
    by_cases q : a = p
    · subst q; exact hb
    · simp only [Store.set, if_neg q] at e; exact C.new a x e hx
  dic a x e hx := by
    by_cases q : a = p
    · subst q; simp only [Store.set, if_true] at e; cases e; exact hdd hx
    · simp only [Store.set, if_neg q] at e; exact C.dic a x e hx
  low := C.low
theorem Step.adopt {p : Addr} {o' : O} {h' : Heap} {tk : Nat} (hk : ∀ b x, b ≠ p → s.heap.get? b = some x → h'.get? b = some x) : Step (fun a => own a ∨ a = p) σ s (σ.set p o') { s with heap := h', toks := tk } where
  keep a x e _ ho := hk a x (fun q => ho (.inr q)) e
  no a x e hs ho := by
    have q : a ≠ p := fun q => ho (.inr q)
    simp only [Store.set, if_neg q]; exact hs
  shut a x e hs ho := by
    have q : a ≠ p := fun q => ho (.inr q)
    simp only [Sh, Store.set, if_neg q]; exact hs
theorem Step.seal {p : Addr} (T : Step (fun a => own a ∨ a = p) σ s σ' s') (hp : s.heap.get? p = none) : Step own σ s σ' s' := T.less fun a o e q => q.elim id fun q => by rw [q, hp] at e; cases e
theorem Sim.adopt (S : Sim prog w B vars env ρ σ s) {p : Addr} {o' : O} {h' : Heap} (tk : Nat) (hs : σ p = none) (hb : B.heap.get? p = none) (ho : ¬ Own env p) (hn : ∀ o, s.heap.get? p = some o → ¬ tupLike o) (hk : ∀ b x, b ≠ p → s.heap.get? b = some x → h'.get? b = some x)
    (hr : ORel prog w h' p o') (hdd : o'.isD = true → (p == sysModules) = false := by intro h; cases h) : Sim prog w B vars env ρ (σ.set p o') { s with heap := h', toks := tk } := by
  refine ⟨S.core.adopt tk hs hb hn hk hr hdd, S.frame.kept (fun a o ha e => hk a o (fun q => ho (q ▸ ha)) e) (fun a o e ht => hk a o (fun q => by subst q; exact hn _ e ht) e) fun a ha => ?_⟩
  have q : a ≠ p := fun q => ho (q ▸ ha)
  simp only [Store.set, if_neg q]; exact (S.frame.own a ha).1
end

end Mine

namespace Mine
open PySem PyProof.Rows

structure Good (A : Around) (n : Nat) : Prop where
  hd : A.handled = none
  dep : A.depth + n < recursionLimit
  un : A.units + 5 * n + 40 < cLine

theorem Good.in1 {A : Around} {n : Nat} (g : Good A (n + 1)) : Good A.in1 n := ⟨g.hd, by have := g.dep; simp; omega, by have := g.un; simp; omega⟩
theorem Good.less {A : Around} {n k : Nat} (g : Good A n) (h : k ≤ n) : Good A k := ⟨g.hd, by have := g.dep; omega, by have := g.un; omega⟩
theorem Good.deeper {A : Around} {n : Nat} (g : Good A (n + 1)) (env : Env) : Good (A.deeper env) n := ⟨g.hd, by have := g.dep; simp [Around.deeper]; omega, by have := g.un; simp; omega⟩

/-- what stands at the top -/
structure Gl where
  consts : List (Str × V)
  fns : List (Str × Nat × Addr)

noncomputable def biTab : List (Str × Value) := [("len", .builtin "len"), ("isinstance", .builtin "isinstance"), ("max", .builtin "max"), ("min", .builtin "min"), ("sorted", .builtin "sorted"), ("list", .type "list"), ("dict", .type "dict"), ("tuple", .type "tuple"),
  ("int", .type "int"), ("bool", .type "bool"), ("str", .type "str"), ("range", .type "range"), ("enumerate", .type "enumerate")]

structure TopOK (B : Shared) (G : Gl) (mg mb : Str → Option Value) : Prop where
  g : B.heap.Ns mainGlobals mg
  b : B.heap.Ns builtinsNs mb
  lim : B.heap.NoLimit
  cst : ∀ x v, G.consts.lookup x = some v → ∃ u, mg x = some u ∧ VRel B.heap v u
  fn : ∀ x i a, G.fns.lookup x = some (i, a) → mg x = some (.ref a) ∧ ∃ o fd, B.heap.get? a = some o ∧ o.data = .func fd
  bi : ∀ x v, biTab.lookup x = some v → mg x = none ∧ mb x = some v

section
variable (prog : Program) (w : World) (B : Shared) (vars : List Str) (S : Spec) (n : Nat) (G : Gl)

/-- what a call gives -/
noncomputable def CallPost (σ : Store) (s : Shared) (Q : Post) (r : Result) (s' : Shared) : Prop :=
  ∃ v x σ', r = .ok (.ret v) ∧ VRel s'.heap x v ∧ Core prog w B σ' s' ∧ Step (fun _ => False) σ s σ' s' ∧ Q x σ'

noncomputable def SpecOK : Prop := ∀ x i a, G.fns.lookup x = some (i, a) → ∀ xs vs σ s Q A, Good A n → Core prog w B σ s → VRels s.heap xs vs → S i xs σ Q →
  codeAny (model prog w) A (.call (.ref a) ⟨vs, []⟩) (CallPost prog w B σ s Q) s

noncomputable def Got (env : Env) (ρ : Loc) (σ : Store) (s : Shared) (Q : Post) (v : Value) (s' : Shared) : Prop :=
  ∃ x σ', VRel s'.heap x v ∧ Sim prog w B vars env ρ σ' s' ∧ Step (Own env) σ s σ' s' ∧ Q x σ'
noncomputable def GotB (env : Env) (ρ : Loc) (σ : Store) (s : Shared) (Q : Bool → Store → Prop) (b : Bool) (s' : Shared) : Prop :=
  ∃ σ', Sim prog w B vars env ρ σ' s' ∧ Step (Own env) σ s σ' s' ∧ Q b σ'
noncomputable def GotL (env : Env) (ρ : Loc) (σ : Store) (s : Shared) (Q : List V → Store → Prop) (vs : List Value) (s' : Shared) : Prop :=
  ∃ xs σ', VRels s'.heap xs vs ∧ Sim prog w B vars env ρ σ' s' ∧ Step (Own env) σ s σ' s' ∧ Q xs σ'

structure SoundE (kd : Str → Option NameKind) (e : Expr) (x : X) : Prop where
  ev : ∀ (env : Env) A ρ σ s Q, env.kindOf = kd → Good A n → Sim prog w B vars env ρ σ s → wpE S x ρ σ Q →
    wpAny (model prog w) A (eval e env) (Got prog w B vars env ρ σ s Q) (fun _ _ => False) s
  tr : ∀ (env : Env) A ρ σ s Q, env.kindOf = kd → Good A n → Sim prog w B vars env ρ σ s → wpE S x ρ σ (asBool Q) →
    wpAny (model prog w) A (isTrue e env (eval e env)) (GotB prog w B vars env ρ σ s Q) (fun _ _ => False) s

noncomputable def SoundEs (kd : Str → Option NameKind) (es : List Expr) (xs : List X) : Prop :=
  ∀ (env : Env) A ρ σ s Q, env.kindOf = kd → Good A n → Sim prog w B vars env ρ σ s → wpEs S xs ρ σ Q → ∀ pos,
    wpAny (model prog w) A (spliced (backTo pos (starEach es env))) (fun vs s' => vs.length = es.length ∧ GotL prog w B vars env ρ σ s Q vs s') (fun _ _ => False) s
end

section
variable {prog : Program} {w : World} {B : Shared} {vars : List Str} {S : Spec} {n : Nat} {G : Gl} {kd : Str → Option NameKind} {env : Env} {ρ : Loc} {σ σ₁ : Store} {s s₁ s' : Shared} {A : Around}

theorem Got.trans {Q : Post} {v : Value} (T : Step (Own env) σ s σ₁ s₁) (h : Got prog w B vars env ρ σ₁ s₁ Q v s') : Got prog w B vars env ρ σ s Q v s' := by
  obtain ⟨x, σ', a, b, c, d⟩ := h; exact ⟨x, σ', a, b, T.trans c, d⟩
theorem GotB.trans {Q : Bool → Store → Prop} {v : Bool} (T : Step (Own env) σ s σ₁ s₁) (h : GotB prog w B vars env ρ σ₁ s₁ Q v s') : GotB prog w B vars env ρ σ s Q v s' := by
  obtain ⟨σ', b, c, d⟩ := h; exact ⟨σ', b, T.trans c, d⟩
theorem Got.here {Q : Post} {v : Value} {x : V} (h : VRel s.heap x v) (M : Sim prog w B vars env ρ σ s) (q : Q x σ) : Got prog w B vars env ρ σ s Q v s := ⟨x, σ, h, M, .refl, q⟩
/-- a plain value, nothing turned but tokens -/
theorem Got.tok {Q : Post} {v : Value} {x : V} {tk : Nat} (M : Sim prog w B vars env ρ σ s) (h : VRel s.heap x v) (q : Q x σ) : Got prog w B vars env ρ σ s Q v { s with toks := tk } := ⟨x, σ, h, M.toks tk, Step.toks, q⟩

/-- by its value, where the test has no form of its own -/
theorem SoundE.of {e : Expr} {x : X} (he : ∀ (env : Env), isTrue e env (eval e env) = (do let v ← eval e env; standAt e.pos; holding [v] (truthy v)))
    (h : ∀ (env : Env) A ρ σ s Q, env.kindOf = kd → Good A n → Sim prog w B vars env ρ σ s → wpE S x ρ σ Q → wpAny (model prog w) A (eval e env) (Got prog w B vars env ρ σ s Q) (fun _ _ => False) s) :
    SoundE prog w B vars S n kd e x := by
  refine ⟨h, fun env A ρ σ s Q hk g M q => ?_⟩
  refine isTrue_plain (wpAny_mono (h env A ρ σ s _ hk g M q) (fun v s₁ h₁ => ?_) fun _ _ x => x) (he env)
  obtain ⟨x, σ', r, M', T, q'⟩ := h₁
  cases x with
  | bool b => simp only [VRel] at r; subst r; exact wpAny_truthy_bool ⟨σ', M', T, q'⟩
  | _ => exact q'.elim

theorem SoundE.var {i : Nat} {x : Str} {pos : Pos} (hx : vars[i]? = some x) (hk : kd x = some .local ∨ kd x = some .cell ∨ kd x = some .free) (hd : (x == ("__debug__" : Str)) = false) (hc : (x == ("__classdict__" : Str)) = false) :
    SoundE prog w B vars S n kd (.Name x pos) (.var i) := by
  refine SoundE.of (fun _ => rfl) fun env A ρ σ s Q hkd g M q => ?_
  simp only [wpE] at q
  obtain ⟨v, hv, q⟩ := q
  subst hkd
  rcases hk with hk | hk | hk
  · obtain ⟨m, hn, hm⟩ := M.frame.ns
    obtain ⟨u, hu, hr⟩ := hm i x v hx hv hk
    exact wpAny_Name (wpAny_loadName_local M.frame.kind hk hn hu (Got.here hr M q)) hd
  · obtain ⟨c, u, hcl, hcv, hr⟩ := M.frame.cell i x v hx hv (.inl hk)
    exact wpAny_Name (wpAny_loadName_cell M.frame.kind hk hcl hcv (Got.here hr M q)) hd
  · obtain ⟨c, u, hcl, hcv, hr⟩ := M.frame.cell i x v hx hv (.inr hk)
    exact wpAny_Name (wpAny_loadName_free M.frame.kind hk hcl hcv (Got.here hr M q) hc) hd

/-- an immediate -/
noncomputable def imm : V → Bool
  | .none => true | .bool _ => true | .int _ => true | .str _ => true | _ => false
theorem VRel.imm {h h' : Heap} {x : V} {v : Value} (hi : imm x = true) (r : VRel h x v) : VRel h' x v := by
  cases x <;> simp only [Mine.imm, Bool.false_eq_true] at hi <;> simpa only [VRel] using r

theorem SoundE.gl {x : Str} {pos : Pos} {v : V} {mg mb} (T : TopOK B G mg mb) (hx : G.consts.lookup x = some v) (hi : imm v = true) (hk : kd x = some .globalImplicit) (hd : (x == ("__debug__" : Str)) = false) :
    SoundE prog w B vars S n kd (.Name x pos) (.gl x v) := by
  refine SoundE.of (fun _ => rfl) fun env A ρ σ s Q hkd g M q => ?_
  subst hkd
  obtain ⟨u, hu, hr⟩ := T.cst x v hx
  refine Calls.Name_function_global M.frame.kind hk (Calls.loadGlobal_global (mg := mg) ?_ hu (Got.here (hr.imm hi) M q)) hd
  rw [M.frame.glob]; exact T.g.keeps M.core.base

theorem SoundE.cInt {i : Int} {k : Nat} {pos : Pos} : SoundE prog w B vars S n kd (.Constant (.int i) k pos) (.cst (.int i)) :=
  SoundE.of (fun _ => rfl) fun env A ρ σ s Q _ _ M q => wpAny_Constant_int (Got.tok (x := .int i) M (by simp [VRel]) q)
theorem SoundE.cStr {i : Str} {k : Nat} {pos : Pos} : SoundE prog w B vars S n kd (.Constant (.str i) k pos) (.cst (.str i)) :=
  SoundE.of (fun _ => rfl) fun env A ρ σ s Q _ _ M q => Calls.Constant_str (Got.tok (x := .str i) M (by simp [VRel]) q)
theorem SoundE.cBool {i : Bool} {k : Nat} {pos : Pos} : SoundE prog w B vars S n kd (.Constant (.bool i) k pos) (.cst (.bool i)) :=
  SoundE.of (fun _ => rfl) fun env A ρ σ s Q _ _ M q => wpAny_pure (a := Value.bool i) (Got.here (x := .bool i) (by simp [VRel]) M q)
theorem SoundE.cNone {k : Nat} {pos : Pos} : SoundE prog w B vars S n kd (.Constant .none k pos) (.cst .none) :=
  SoundE.of (fun _ => rfl) fun env A ρ σ s Q _ _ M q => wpAny_pure (a := Value.none) (Got.here (x := .none) (by simp [VRel]) M q)

noncomputable def starred : Expr → Bool
  | .Starred .. => true
  | _ => false

theorem SoundEs.nil : SoundEs prog w B vars S n kd [] [] := fun env A ρ σ s Q _ _ M q pos => by
  simp only [wpEs] at q
  exact Calls.spliced_nil ⟨rfl, [], σ, .nil, M, .refl, q⟩
theorem SoundEs.cons {e : Expr} {x : X} {es : List Expr} {xs : List X} (h : SoundE prog w B vars S n kd e x) (r : SoundEs prog w B vars S n kd es xs) (hs : starred e = false := by rfl) : SoundEs prog w B vars S n kd (e :: es) (x :: xs) := fun env A ρ σ s Q hk g M q pos => by
  simp only [wpEs] at q
  have e1 : backTo pos (starEach (e :: es) env) = (false, eval e env) :: backTo pos (starEach es env) := by
    cases e <;> first | rfl | cases hs
  rw [e1]
  refine Calls.spliced_cons (wpAny_mono (h.ev env A ρ σ s _ hk g M q) (fun v s₁ h₁ => ?_) fun _ _ x => x)
  obtain ⟨x, σ₁, rv, M₁, T₁, q₁⟩ := h₁
  refine wpAny_mono (r env A ρ σ₁ s₁ _ hk g M₁ q₁ pos) (fun vs s₂ h₂ => ?_) fun _ _ x => x
  obtain ⟨hl, ys, σ₂, rvs, M₂, T₂, q₂⟩ := h₂
  exact ⟨by simp [hl], x :: ys, σ₂, .cons (rv.step M₁ T₂) rvs, M₂, T₁.trans T₂, q₂⟩

theorem foldl_cat (a : Array Nat) : ∀ (k : Nat) (acc : Array Nat), ((List.replicate k a).foldl (· ++ ·) acc).toList = acc.toList ++ (List.replicate k a.toList).flatten
  | 0, acc => by simp
  | k + 1, acc => by
    rw [List.replicate_succ, List.foldl_cons, foldl_cat a k, List.replicate_succ]
    simp
theorem mul_is (x : Str) {k : Int} (hk : 0 ≤ k) : Txt.mul x k = strRep x k.toNat := by
  have ext : ∀ (y z : Str), y.cps.toList = z.cps.toList → y = z := fun y z e => by
    cases y; cases z; congr; exact Array.toList_inj.mp e
  apply ext
  unfold Txt.mul strRep
  split
  · have : k = 0 := by omega
    subst this; rfl
  · split
    · rename_i h1 h2
      simp only [Bool.or_eq_true, beq_iff_eq] at h2
      rcases h2 with h2 | h2
      · subst h2; simp
      · have h3 : x.cps.toList = [] := by
          have : x.cps.size = 0 := h2
          simpa using this
        simp [h3]
    · simp only [foldl_cat]; simp

theorem alloc_list (M : Sim prog w B vars env ρ σ s) {l : List V} {vs : List Value} {Q : Post} {h' : Heap} {a : Addr} {tk : Nat} (hr : VRels s.heap l vs) (hz : vs.length ≤ 16777216) (q : fresh σ (.list true l) Q) (ha : s.heap.get? a = none)
    (hk : ∀ b o, s.heap.get? b = some o → h'.get? b = some o) (hp : h'.PlainList a vs.toArray) : Got prog w B vars env ρ σ s Q (.ref a) { s with heap := h', toks := tk } := by
  obtain ⟨M', T'⟩ := M.add (o' := .list true l) (h' := h') tk ha hk ⟨vs.toArray, ⟨hp.isList, fun _ => hp⟩, by simpa using hz, by simpa using hr.keep fun c o e _ => hk c o e⟩
  exact ⟨.ref a, _, rfl, M', T', q a (M.core.free ha).1⟩

theorem get_size (h : Heap) : h.get? h.objs.size = none := by
  cases e : h.get? h.objs.size with
  | none => rfl
  | some o => exact absurd (Heap.lt_size e) (Nat.lt_irrefl _)

theorem bin_sound {op : Operator} {o : BOp} {a b : Value} {x y : V} {Q : Post} (hop : (o, op) ∈ [(BOp.add, Operator.Add), (.sub, .Sub), (.mul, .Mult), (.fdiv, .FloorDiv), (.mod, .Mod)])
    (M : Sim prog w B vars env ρ σ s) (ra : VRel s.heap x a) (rb : VRel s.heap y b) (q : wpBin o x y σ Q) : wpAny (model prog w) A (binaryOp op a b) (Got prog w B vars env ρ σ s Q) (fun _ _ => False) s := by
  have intGot : ∀ (i : Int), Q (.int i) σ → Got prog w B vars env ρ σ s Q (.int i s.toks) { s with toks := s.toks + 1 } := fun i q => Got.tok (x := .int i) M (by simp [VRel]) q
  unfold wpBin at q
  split at q
  · simp only [VRel] at ra rb; obtain ⟨t, rfl⟩ := ra; obtain ⟨u, rfl⟩ := rb
    simp at hop; subst hop; exact add_int (intGot _ q)
  · simp only [VRel] at ra rb; obtain ⟨t, rfl⟩ := ra; obtain ⟨u, rfl⟩ := rb
    simp at hop; subst hop; exact sub_int (intGot _ q)
  · simp only [VRel] at ra rb; obtain ⟨t, rfl⟩ := ra; obtain ⟨u, rfl⟩ := rb
    simp at hop; subst hop
    refine mul_int (intGot _ q.2) ?_
    rcases q.1 with h | h
    · exact IntMulOk.of_left (intBits_le_64 (by omega) (by omega))
    · exact IntMulOk.of_right (intBits_le_64 (by omega) (by omega))
  · simp only [VRel] at ra rb; obtain ⟨t, rfl⟩ := ra; obtain ⟨u, rfl⟩ := rb
    simp at hop; subst hop
    rename_i i j
    refine floordiv_int (by omega) ?_ (.inl (PyProof.noPylong_small (by omega)))
    rw [Int.fdiv_eq_ediv_of_nonneg _ (by omega)]
    exact intGot _ q.2.2
  · simp only [VRel] at ra rb; obtain ⟨t, rfl⟩ := ra; obtain ⟨u, rfl⟩ := rb
    simp at hop; subst hop
    rename_i i j
    refine mod_int' (by omega) ?_
    rw [Int.fmod_eq_emod_of_nonneg _ (by omega)]
    exact intGot _ q.2
  · simp only [VRel] at ra rb; obtain ⟨t, rfl⟩ := ra; obtain ⟨u, rfl⟩ := rb
    simp at hop; subst hop
    rename_i x y
    exact add_str (fun t' tk => Got.tok (x := .str (x ++ y)) M (by simp [VRel]) q.2) (by rw [sizeLine_eq]; omega)
  · simp only [VRel] at ra rb; obtain ⟨t, rfl⟩ := ra; obtain ⟨u, rfl⟩ := rb
    simp at hop; subst hop
    rename_i x k
    refine SB.mul (mulOk_of 16 1048576 (by omega) (by omega) (by omega) (by decide) (by decide)) fun t' k' => ?_
    rw [mul_is x q.1]
    exact Got.tok (x := .str _) M (by simp [VRel]) q.2.2.2
  · simp only [VRel] at ra rb; subst ra; subst rb
    simp at hop; subst hop
    rename_i p₁ p₂
    obtain ⟨l, l', h1, h2, h3, q⟩ := q
    obtain ⟨vs, ⟨_, hp1⟩, y1, r1⟩ := M.core.objs _ _ h1
    obtain ⟨n1, g1⟩ := hp1 rfl
    obtain ⟨us, ⟨_, hp2⟩, y2, r2⟩ := M.core.objs _ _ h2
    obtain ⟨n2, g2⟩ := hp2 rfl
    have z1 := r1.length
    have z2 := r2.length
    simp only [Array.length_toList] at z1 z2
    refine P.add_list g1 g2 ?_ (by rw [sizeLine_eq]; omega)
    refine alloc_list (tk := s.toks) (vs := vs.toList ++ us.toList) M (r1.append r2) (by simp; omega) q (get_size _) (fun b o e => Heap.get?_push_of_some _ e) ⟨0, ?_⟩
    rw [show (vs.toList ++ us.toList).toArray = vs ++ us from by simp]
    exact Heap.get?_push_size _ rfl
  · exact q.elim
end
end Mine

namespace Mine
open PySem PyProof.Rows

section
variable {prog : Program} {w : World} {B : Shared} {vars : List Str} {S : Spec} {n : Nat} {G : Gl} {kd : Str → Option NameKind} {env : Env} {ρ : Loc} {σ σ₁ : Store} {s s₁ s' : Shared} {A : Around}

theorem datB_reads {h : Heap} {x : V} {v : Value} {d : PyData} (e : datB x = some d) (r : VRel h x v) : ∃ as, Reads h v d as ∧ d.canLay0 = true ∧ d.depth = 0 := by
  cases x with
  | none => simp only [datB] at e; cases e; simp only [VRel] at r; subst r; exact ⟨_, .none, rfl, rfl⟩
  | bool b => simp only [datB] at e; cases e; simp only [VRel] at r; subst r; exact ⟨_, .bool b, rfl, rfl⟩
  | int i => simp only [datB] at e; cases e; simp only [VRel] at r; obtain ⟨t, rfl⟩ := r; exact ⟨_, .int i t, rfl, rfl⟩
  | str x =>
    simp only [datB] at e
    split at e
    · rename_i hx; cases e; simp only [VRel] at r; obtain ⟨t, rfl⟩ := r; exact ⟨_, .str x t, by simpa [PyData.canLay0] using hx, rfl⟩
    · cases e
  | _ => simp only [datB] at e; cases e

theorem datL_reads {h : Heap} {f : V → Option PyData} {k : Nat} (hf : ∀ x v d, f x = some d → VRel h x v → ∃ as, Reads h v d as ∧ d.canLay0 = true ∧ d.depth ≤ k) :
    ∀ (l : List V) (vs : List Value) (ds : List PyData), datL f l = some ds → VRels h l vs → ∃ as, ReadsAll h vs ds as ∧ PyData.canLayAll0 ds = true ∧ PyData.depthAll ds ≤ k
  | [], _, _, e, r => by simp only [datL] at e; cases e; simp only [VRels] at r; subst r; exact ⟨_, .nil, rfl, Nat.zero_le _⟩
  | x :: l, _, _, e, r => by
    simp only [datL] at e
    split at e
    · rename_i d ds h1 h2
      cases e
      simp only [VRels] at r
      obtain ⟨v, r', rfl, ra, rb⟩ := r
      obtain ⟨as, g1, g2, g3⟩ := hf x v d h1 ra
      obtain ⟨bs, k1, k2, k3⟩ := datL_reads hf l r' ds h2 rb
      exact ⟨_, .cons g1 k1, by simp [PyData.canLayAll0, g2, k2], by simp only [PyData.depthAll]; omega⟩
    · cases e

theorem dat_reads (C : Core prog w B σ s) : ∀ (k : Nat) (x : V) (v : Value) (d : PyData), dat σ k x = some d → VRel s.heap x v → ∃ as, Reads s.heap v d as ∧ d.canLay0 = true ∧ d.depth ≤ k
  | 0, x, v, d, e, r => by
    obtain ⟨as, a, b, c⟩ := datB_reads (by simpa only [dat] using e) r; exact ⟨as, a, b, by omega⟩
  | k + 1, x, v, d, e, r => by
    have dflt : datB x = some d → ∃ as, Reads s.heap v d as ∧ d.canLay0 = true ∧ d.depth ≤ k + 1 := fun e => by
      obtain ⟨as, a, b, c⟩ := datB_reads e r; exact ⟨as, a, b, by omega⟩
    cases x with
    | tup l =>
      simp only [dat] at e
      cases hd : datL (dat σ k) l with
      | none => rw [hd] at e; cases e
      | some ds =>
        rw [hd] at e; cases e
        simp only [VRel] at r
        obtain ⟨a, vs, m, rfl, g, _, rs⟩ := r
        obtain ⟨as, h1, h2, h3⟩ := datL_reads (dat_reads C k) l _ ds hd rs
        exact ⟨_, .tuple g rfl rfl h1, by simpa [PyData.canLay0] using h2, by simp only [PyData.depth]; omega⟩
    | ref a =>
      simp only [dat] at e
      split at e
      · rename_i m l hl
        cases hd : datL (dat σ k) l with
        | none => rw [hd] at e; cases e
        | some ds =>
          rw [hd] at e; cases e
          simp only [VRel] at r
          subst r
          obtain ⟨vs, ⟨⟨o, g, hc, z, hdd⟩, _⟩, _, rs⟩ := C.objs _ _ hl
          obtain ⟨as, h1, h2, h3⟩ := datL_reads (dat_reads C k) l _ ds hd rs
          exact ⟨_, .list g hc hdd h1, by simpa [PyData.canLay0] using h2, by simp only [PyData.depth]; omega⟩
      · cases e
    | none => exact dflt e
    | bool b => exact dflt e
    | int i => exact dflt e
    | str x => exact dflt e
    | rng a b => exact dflt e

theorem Good.room {k : Nat} (g : Good A n) (h : k ≤ 30) : A.units + k < cLine := by have := g.un; omega

theorem beq_str (x y : Str) : (x == y) = decide (x = y) := by
  by_cases h : x = y
  · subst h; simp
  · simp [h]

theorem Core.notMods (C : Core prog w B σ s) {mg mb} (_ : TopOK B G mg mb) {a : Addr} {o : O} (h : σ a = some o) (hd : o.isD = true) : (a == sysModules) = false := C.dic a o h hd

theorem look_valueAt {K : Type} [DecidableEq K] {h : Heap} : ∀ {es : List (K × V)} {kvs : List (K × Value)}, kvs.map (·.1) = es.map (·.1) → VRels h (es.map (·.2)) (kvs.map (·.2)) → ∀ k : K,
    (look es k = none ∧ valueAt kvs k = none) ∨ ∃ x v, look es k = some x ∧ valueAt kvs k = some v ∧ VRel h x v
  | [], [], _, _, k => .inl ⟨rfl, rfl⟩
  | [], _ :: _, e, _, _ => by simp at e
  | _ :: _, [], e, _, _ => by simp at e
  | e :: es, kv :: kvs, hk, hv, k => by
    simp only [List.map_cons, List.cons.injEq] at hk
    simp only [List.map_cons, VRels] at hv
    obtain ⟨v, r, hv1, hv2, hv3⟩ := hv
    simp only [List.cons.injEq] at hv1
    obtain ⟨rfl, rfl⟩ := hv1
    have ih := look_valueAt hk.2 hv3 k
    by_cases q : e.1 = k
    · refine .inr ⟨e.2, kv.2, ?_, ?_, hv2⟩
      · simp [look, q]
      · simp [valueAt, hk.1, q]
    · have e1 : look (e :: es) k = look es k := by simp [look, q]
      have e2 : valueAt (kv :: kvs) k = valueAt kvs k := by simp [valueAt, hk.1, q]
      rw [e1, e2]; exact ih
theorem look_isSome {K : Type} [DecidableEq K] {h : Heap} {es : List (K × V)} {kvs : List (K × Value)} (hk : kvs.map (·.1) = es.map (·.1)) (hv : VRels h (es.map (·.2)) (kvs.map (·.2))) (k : K) : (valueAt kvs k).isSome = (look es k).isSome := by
  rcases look_valueAt hk hv k with ⟨a, b⟩ | ⟨x, v, a, b, _⟩ <;> rw [a, b] <;> rfl

theorem eqT_sound {a b : Value} {x y : V} {r : Bool} (g : Good A n) (C : Core prog w B σ s) (ra : VRel s.heap x a) (rb : VRel s.heap y b) (e : eqT σ x y = some r) {Q : Value → Shared → Prop} {E : Value → Shared → Prop} :
    (Q (.bool r) s → wpAny (model prog w) A (compareOp .Eq a b) Q E s) ∧ (Q (.bool !r) s → wpAny (model prog w) A (compareOp .NotEq a b) Q E s) := by
  unfold eqT at e
  split at e
  · rename_i d d' h1 h2
    cases e
    obtain ⟨as, a1, a2, a3⟩ := dat_reads C _ _ _ _ h1 ra
    obtain ⟨bs, b1, b2, b3⟩ := dat_reads C _ _ _ _ h2 rb
    have hu : A.units + min d.depth d'.depth < cLine := by have := g.room (k := 4) (by omega); omega
    exact ⟨fun q => SeqAt.compareEq_reads a1 b1 a2 b2 hu q, fun q => SeqAt.compareNe_reads a1 b1 a2 b2 hu q⟩
  · cases e

theorem intsOf_rel {h : Heap} : ∀ {l : List V} {is : List Int} {vs : List Value}, intsOf l = some is → VRels h l vs → vs.length = is.length ∧ ∀ (j : Nat) (v : Value) (i : Int), vs[j]? = some v → is[j]? = some i → ∃ t, v = .int i t
  | [], _, _, e, r => by simp only [intsOf] at e; cases e; simp only [VRels] at r; subst r; exact ⟨rfl, fun j v i h => by simp at h⟩
  | x :: l, is, _, e, r => by
    cases x with
    | int i =>
      simp only [intsOf, Option.map_eq_some_iff] at e
      obtain ⟨is', e, rfl⟩ := e
      simp only [VRels] at r
      obtain ⟨v, r', rfl, ra, rb⟩ := r
      simp only [VRel] at ra
      obtain ⟨t, rfl⟩ := ra
      obtain ⟨h1, h2⟩ := intsOf_rel e rb
      refine ⟨by simp [h1], fun j v i' hv hi => ?_⟩
      cases j with
      | zero => simp at hv hi; subst hv; subst hi; exact ⟨t, rfl⟩
      | succ j => simp at hv hi; exact h2 j v i' hv hi
    | _ => simp only [intsOf] at e; cases e

theorem valueAt_get {K : Type} [DecidableEq K] {kvs : List (K × Value)} (hn : (kvs.map (·.1)).Nodup) {j : Nat} {k : K} {v : Value} (h : kvs[j]? = some (k, v)) : valueAt kvs k = some v := by
  induction kvs generalizing j with
  | nil => simp at h
  | cons kv r ih =>
    simp only [List.map_cons, List.nodup_cons] at hn
    cases j with
    | zero => simp at h; subst h; simp [valueAt]
    | succ j =>
      simp at h
      have hm : k ∈ r.map (·.1) := List.mem_map.mpr ⟨(k, v), List.mem_of_getElem? h, rfl⟩
      have hne : kv.1 ≠ k := fun q => hn.1 (q ▸ hm)
      have := ih hn.2 h
      simpa [valueAt, hne] using this

open PySem.W in
theorem hits_of {K : Type} [DecidableEq K] {kb : List (K × Value)} (hn : (kb.map (·.1)).Nodup) (is : List Int) (hb : ∀ (j : Nat) (v : Value) (i : Int), (kb.map (·.2))[j]? = some v → is[j]? = some i → ∃ t, v = .int i t) :
    ∀ (ka : List (K × Value)) (k : Nat), ka.map (·.1) = (kb.map (·.1)).drop k → (∀ (j : Nat) (v : Value) (i : Int), (ka.map (·.2))[j]? = some v → is[k + j]? = some i → ∃ t, v = .int i t) → is.length = kb.length → ka.length + k = kb.length → KeqHits A s kb ka true
  | [], _, _, _, _, _ => .nil
  | (x, v) :: ka, k, hk, hv, hl, hz => by
    have hz' : k < kb.length := by simp at hz; omega
    have e1 : (kb.map (·.1)).drop k = (kb.map (·.1))[k]'(by simpa using hz') :: (kb.map (·.1)).drop (k + 1) := List.drop_eq_getElem_cons (by simpa using hz')
    rw [e1] at hk
    simp only [List.map_cons, List.cons.injEq, List.getElem_map] at hk
    have hget : kb[k]? = some (x, kb[k].2) := by rw [List.getElem?_eq_getElem hz']; rw [hk.1]
    obtain ⟨z, hi⟩ : ∃ z, is[k]? = some z := ⟨_, List.getElem?_eq_getElem (by omega)⟩
    obtain ⟨t, ht⟩ := hv 0 v z (by simp) (by simpa using hi)
    obtain ⟨u, hu⟩ := hb k kb[k].2 z (by simp [hz']) hi
    have he : SeqAt.EqAt A s v kb[k].2 true := by
      rw [ht, hu]; have := SeqAt.EqAt.int_int (A := A) (s := s) z t z u; simpa using this
    have hh := KeqHits.hit (A := A) (s := s) (e := true) (b := true) (valueAt_get hn hget) he (hits_of hn is hb ka (k + 1) hk.2 (fun j v i h1 h2 => hv (j + 1) v i (by simpa using h1) (by rw [show k + (j + 1) = k + 1 + j from by omega]; exact h2)) hl (by simp at hz; omega))
    simpa using hh

open PySem.W in
theorem eqD_sound {p q : Addr} {m m' : Bool} {es es' : List (Str × V)} {r : Bool} {mg mb} (T : TopOK B G mg mb) (g : Good A n) (C : Core prog w B σ s) (hp : σ p = some (.ds m es)) (hq : σ q = some (.ds m' es')) (e : eqD es es' = some r) {Q : Value → Shared → Prop} {E : Value → Shared → Prop} :
    (Q (.bool r) s → wpAny (model prog w) A (compareOp .Eq (.ref p) (.ref q)) Q E s) ∧ (Q (.bool !r) s → wpAny (model prog w) A (compareOp .NotEq (.ref p) (.ref q)) Q E s) := by
  unfold eqD at e
  split at e
  · rename_i is is' h1 h2
    split at e
    · rename_i hh
      cases e
      obtain ⟨kvs, hd, hk, hv⟩ := C.objs _ _ hp
      obtain ⟨kvs', hd', hk', hv'⟩ := C.objs _ _ hq
      obtain ⟨hk1, rfl⟩ := hh
      have l1 := congrArg List.length hk
      have l2 := congrArg List.length hk'
      have l3 := congrArg List.length hk1
      simp only [List.length_map] at l1 l2 l3
      have r1 := intsOf_rel h1 hv
      have r2 := intsOf_rel h2 hv'
      have n1 : is.length = kvs'.length := by have := r2.1; simp at this; omega
      have hn : (kvs'.map (·.1)).Nodup := let ⟨_, _, _, _, _, _, _, _, hn⟩ := hd'; hn
      have hits : kvs.length = kvs'.length → KeqHits A.in1 s kvs' kvs true := fun _ =>
        hits_of hn is r2.2 kvs 0 (by rw [List.drop_zero, hk, hk', hk1]) (fun j v i a b => r1.2 j v i a (by simpa using b)) n1 (by omega)
      have hu : A.units < cLine := by have := g.room (k := 0) (by omega); omega
      have e2 : (kvs.length == kvs'.length && true) = true := by simp; omega
      exact ⟨fun h => keq_eq (C.notMods T hp rfl) (C.notMods T hq rfl) hd hd' hu hits (by rw [e2]; exact h), fun h => keq_ne (C.notMods T hp rfl) (C.notMods T hq rfl) hd hd' hu hits (by rw [e2]; exact h)⟩
    · cases e
  · cases e

theorem eq_both {a b : Value} {x y : V} {r : Bool} {mg mb} (T : TopOK B G mg mb) (g : Good A n) (C : Core prog w B σ s) (ra : VRel s.heap x a) (rb : VRel s.heap y b) (e : eqV σ x y = some r) {Q : Value → Shared → Prop} {E : Value → Shared → Prop} :
    (Q (.bool r) s → wpAny (model prog w) A (compareOp .Eq a b) Q E s) ∧ (Q (.bool !r) s → wpAny (model prog w) A (compareOp .NotEq a b) Q E s) := by
  unfold eqV at e
  split at e
  · simp only [VRel] at ra rb; obtain ⟨t, rfl⟩ := ra; obtain ⟨u, rfl⟩ := rb
    cases e
    exact ⟨fun q => by refine eq_str ?_; rw [beq_str]; exact q, fun q => by refine ne_str ?_; rw [bne, beq_str]; exact q⟩
  · simp only [VRel] at ra rb; obtain ⟨t, rfl⟩ := ra; obtain ⟨u, rfl⟩ := rb
    cases e
    rename_i i j
    exact ⟨fun q => by refine eq_int ?_; rw [show (i == j) = decide (i = j) from rfl]; exact q, fun q => by refine ne_int ?_; rw [bne, show (i == j) = decide (i = j) from rfl]; exact q⟩
  · split at e
    · simp only [VRel] at ra rb; subst ra; subst rb
      rename_i h1 h2
      exact eqD_sound T g C h1 h2 e
    · exact eqT_sound g C ra rb e
  · exact eqT_sound g C ra rb e

/-- the comparison of the model -/
noncomputable def COp.real : COp → CmpOp
  | .eq => .Eq | .ne => .NotEq | .lt => .Lt | .le => .LtE | .gt => .Gt | .ge => .GtE | .isin => .In | .notin => .NotIn | .is => .Is

theorem in_sound {a b : Value} {x y : V} {r : Bool} {mg mb} (T : TopOK B G mg mb) (g : Good A n) (C : Core prog w B σ s) (ra : VRel s.heap x a) (rb : VRel s.heap y b) (e : inV σ x y = some r) {Q : Value → Shared → Prop} {E : Value → Shared → Prop} :
    ((∀ tk, Q (.bool r) { s with toks := tk }) → wpAny (model prog w) A (compareOp .In a b) Q E s) ∧ ((∀ tk, Q (.bool !r) { s with toks := tk }) → wpAny (model prog w) A (compareOp .NotIn a b) Q E s) := by
  unfold inV at e
  split at e
  · rename_i p
    simp only [VRel] at rb; subst rb
    split at e
    · rename_i m l hl
      unfold inL at e
      split at e
      · rename_i ds d h1 h2
        cases e
        obtain ⟨vs, ⟨⟨o, gl, hcl, z, hdd⟩, _⟩, _, rs⟩ := C.objs _ _ hl
        obtain ⟨as, a1, a2, a3⟩ := datL_reads (dat_reads C 2) l _ ds h1 rs
        obtain ⟨bs, b1, b2, b3⟩ := dat_reads C _ _ _ _ h2 ra
        have hu : A.units + 1 + min (PyData.depthAll ds) d.depth < cLine := by have := g.room (k := 4) (by omega); omega
        exact ⟨fun q => SeqAt.in_list_reads (.list gl hcl hdd a1) b1 a2 b2 hu (q s.toks), fun q => SeqAt.notIn_list_reads (.list gl hcl hdd a1) b1 a2 b2 hu (q s.toks)⟩
      · cases e
    · rename_i m es hl
      split at e
      · rename_i k
        cases e
        simp only [VRel] at ra; obtain ⟨t, rfl⟩ := ra
        obtain ⟨kvs, hd, hk, hv⟩ := C.objs _ _ hl
        have hm := C.notMods T hl rfl
        rw [← look_isSome hk hv]
        exact ⟨fun q => wpAny_in_of (knd := strKind prog w) (by simp [PySem.strKind, Value.isStrOf]) hm hd.mapOf (q _), fun q => wpAny_notIn_of (knd := strKind prog w) (by simp [PySem.strKind, Value.isStrOf]) hm hd.mapOf (q _)⟩
      · cases e
    · rename_i m es hl
      split at e
      · rename_i k
        cases e
        simp only [VRel] at ra; obtain ⟨t, rfl⟩ := ra
        obtain ⟨kvs, hd, hk, hv⟩ := C.objs _ _ hl
        have hm := C.notMods T hl rfl
        rw [← look_isSome hk hv]
        exact ⟨fun q => wpAny_in_of (knd := intKind prog w) (by simp [PySem.intKind, Value.isInt]) hm hd.mapOf (q _), fun q => wpAny_notIn_of (knd := intKind prog w) (by simp [PySem.intKind, Value.isInt]) hm hd.mapOf (q _)⟩
      · cases e
    · cases e
  · split at e
    · simp only [VRel] at ra rb; obtain ⟨t, rfl⟩ := ra; obtain ⟨u, rfl⟩ := rb
      cases e
      exact ⟨fun q => in_str (q s.toks), fun q => notIn_str (q s.toks)⟩
    · cases e
  · cases e

theorem cmp_sound {o : COp} {a b : Value} {x y : V} {r : Bool} {mg mb} (T : TopOK B G mg mb) (g : Good A n) (C : Core prog w B σ s) (ra : VRel s.heap x a) (rb : VRel s.heap y b) (e : cmpV o x y σ = some r)
    {Q : Value → Shared → Prop} {E : Value → Shared → Prop} (q : ∀ tk, Q (.bool r) { s with toks := tk }) : wpAny (model prog w) A (compareOp o.real a b) Q E s := by
  unfold cmpV at e
  cases o with
  | eq => exact (eq_both T g C ra rb e).1 (q s.toks)
  | ne =>
    simp only [Option.map_eq_some_iff] at e
    obtain ⟨r', e, rfl⟩ := e
    exact (eq_both T g C ra rb e).2 (q s.toks)
  | isin => exact (in_sound T g C ra rb e).1 q
  | notin =>
    simp only [Option.map_eq_some_iff] at e
    obtain ⟨r', e, rfl⟩ := e
    exact (in_sound T g C ra rb e).2 q
  | is =>
    simp only at e
    split at e
    · cases e; simp only [VRel] at ra rb; subst ra; subst rb; exact is_none (q s.toks)
    · cases e; simp only [VRel] at ra rb; subst ra; subst rb; exact is_none (q s.toks)
    · cases e
  | lt =>
    simp only at e
    split at e
    · cases e; simp only [VRel] at ra rb; obtain ⟨t, rfl⟩ := ra; obtain ⟨u, rfl⟩ := rb; exact lt_int (q s.toks)
    · cases e
  | le =>
    simp only at e
    split at e
    · cases e; simp only [VRel] at ra rb; obtain ⟨t, rfl⟩ := ra; obtain ⟨u, rfl⟩ := rb; exact P.le_int (q s.toks)
    · cases e
  | gt =>
    simp only at e
    split at e
    · cases e; simp only [VRel] at ra rb; obtain ⟨t, rfl⟩ := ra; obtain ⟨u, rfl⟩ := rb; exact gt_int (q s.toks)
    · cases e
  | ge =>
    simp only at e
    split at e
    · cases e; simp only [VRel] at ra rb; obtain ⟨t, rfl⟩ := ra; obtain ⟨u, rfl⟩ := rb; exact P.ge_int (q s.toks)
    · cases e

/-- no set display behind in -/
noncomputable def notSet : Expr → Bool
  | .Set .. => false
  | _ => true
theorem marks_of {op : CmpOp} {e : Expr} (h : notSet e = true) : behindInMarks op e = false := by
  cases e <;> first | rfl | cases h

theorem SoundE.cmp {o : COp} {l r : Expr} {a b : X} {pos : Pos} {mg mb} (T : TopOK B G mg mb) (ha : SoundE prog w B vars S n kd l a) (hb : SoundE prog w B vars S n kd r b) (hs : notSet r = true := by rfl) :
    SoundE prog w B vars S n kd (.Compare l [o.real] [r] pos) (.cmp o a b) := by
  have key : ∀ (env : Env) A ρ σ s Q, env.kindOf = kd → Good A n → Sim prog w B vars env ρ σ s → wpE S (.cmp o a b) ρ σ Q →
      wpAny (model prog w) A (eval l env) (fun a s₁ => wpAny (model prog w) A (eval r env) (fun b s₂ => wpAny (model prog w) A (compareOp o.real a b) (fun c s₃ => ∃ t, c = .bool t ∧ Got prog w B vars env ρ σ s Q c s₃) (fun _ _ => False) s₂) (fun _ _ => False) s₁) (fun _ _ => False) s := by
    intro env A ρ σ s Q hk g M q
    simp only [wpE] at q
    refine wpAny_mono (ha.ev env A ρ σ s _ hk g M q) (fun va s₁ h₁ => ?_) fun _ _ x => x
    obtain ⟨x, σ₁, rv, M₁, T₁, q₁⟩ := h₁
    refine wpAny_mono (hb.ev env A ρ σ₁ s₁ _ hk g M₁ q₁) (fun vb s₂ h₂ => ?_) fun _ _ x => x
    obtain ⟨y, σ₂, rv₂, M₂, T₂, t, ht, q₂⟩ := h₂
    exact cmp_sound T g M₂.core (rv.step M₁ T₂) rv₂ ht fun tk => ⟨t, rfl, (Got.tok (x := .bool t) M₂ rfl q₂).trans (T₁.trans T₂)⟩
  refine ⟨fun env A ρ σ s Q hk g M q => ?_, fun env A ρ σ s Q hk g M q => ?_⟩
  · refine wpAny_Compare1 (wpAny_mono (key env A ρ σ s Q hk g M q) (fun _ _ h₁ => wpAny_mono h₁ (fun _ _ h₂ => wpAny_mono h₂ (fun _ _ h₃ => ?_) fun _ _ x => x) fun _ _ x => x) fun _ _ x => x) (marks_of hs)
    obtain ⟨t, _, h⟩ := h₃; exact h
  · refine wpAny_isTrue_Compare1 (wpAny_mono (key env A ρ σ s _ hk g M q) (fun _ _ h₁ => wpAny_mono h₁ (fun _ _ h₂ => wpAny_mono h₂ (fun c s₃ h₃ => ?_) fun _ _ x => x) fun _ _ x => x) fun _ _ x => x) (marks_of hs)
    obtain ⟨t, rfl, x, σ', r', M', T', q'⟩ := h₃
    cases x with
    | bool b => simp only [VRel] at r'; cases r'; exact wpAny_truthy_bool ⟨σ', M', T', q'⟩
    | _ => exact q'.elim
end
end Mine

namespace Mine
open PySem PyProof.Rows

section
variable {prog : Program} {w : World} {B : Shared} {vars : List Str} {S : Spec} {n : Nat} {G : Gl} {kd : Str → Option NameKind} {env : Env} {ρ : Loc} {σ σ₁ : Store} {s s₁ s' : Shared} {A : Around}

theorem SoundE.bin {o : BOp} {op : Operator} {l r : Expr} {a b : X} {pos : Pos} (hop : (o, op) ∈ [(BOp.add, Operator.Add), (.sub, .Sub), (.mul, .Mult), (.fdiv, .FloorDiv), (.mod, .Mod)])
    (ha : SoundE prog w B vars S n kd l a) (hb : SoundE prog w B vars S n kd r b) : SoundE prog w B vars S n kd (.BinOp l op r pos) (.bin o a b) := by
  refine SoundE.of (fun _ => rfl) fun env A ρ σ s Q hk g M q => ?_
  simp only [wpE] at q
  refine wpAny_BinOp (wpAny_mono (ha.ev env A ρ σ s _ hk g M q) (fun va s₁ h₁ => ?_) fun _ _ x => x)
  obtain ⟨x, σ₁, rv, M₁, T₁, q₁⟩ := h₁
  refine wpAny_mono (hb.ev env A ρ σ₁ s₁ _ hk g M₁ q₁) (fun vb s₂ h₂ => ?_) fun _ _ x => x
  obtain ⟨y, σ₂, rv₂, M₂, T₂, q₂⟩ := h₂
  exact wpAny_mono (bin_sound hop M₂ (rv.step M₁ T₂) rv₂ q₂) (fun _ _ h => h.trans (T₁.trans T₂)) fun _ _ x => x

theorem SoundE.cNeg {i : Int} {k : Nat} {p pos : Pos} : SoundE prog w B vars S n kd (.UnaryOp .USub (.Constant (.int i) k p) pos) (.cst (.int (-i))) := by
  refine SoundE.of (fun _ => rfl) fun env A ρ σ s Q _ _ M q => ?_
  refine UnaryOp_ (wpAny_Constant_int (neg_int ?_))
  exact (Got.tok (x := .int (-i)) (tk := s.toks + 1 + 1) M (by simp [VRel]) q)

theorem SoundE.not {e : Expr} {a : X} {pos : Pos} (ha : SoundE prog w B vars S n kd e a) : SoundE prog w B vars S n kd (.UnaryOp .Not e pos) (.not a) := by
  refine ⟨fun env A ρ σ s Q hk g M q => ?_, fun env A ρ σ s Q hk g M q => ?_⟩
  · simp only [wpE] at q
    refine UnaryOp_ (wpAny_mono (ha.ev env A ρ σ s _ hk g M q) (fun va s₁ h₁ => ?_) fun _ _ x => x)
    obtain ⟨x, σ₁, rv, M₁, T₁, q₁⟩ := h₁
    cases x with
    | bool b => simp only [VRel] at rv; subst rv; exact not_of (wpAny_truthy_bool ⟨.bool !b, σ₁, rfl, M₁, T₁, q₁⟩)
    | _ => exact q₁.elim
  · simp only [wpE] at q
    refine isTrue_not (wpAny_mono (ha.tr env A ρ σ s (fun t σ₁ => Q (!t) σ₁) hk g M q) (fun c s₁ h₁ => h₁) fun _ _ x => x)

/-- a run of and | or -/
structure SoundB (prog : Program) (w : World) (B : Shared) (vars : List Str) (S : Spec) (n : Nat) (kd : Str → Option NameKind) (op : BoolOp) (es : List Expr) (x : X) : Prop where
  ev : ∀ (env : Env) A ρ σ s Q, env.kindOf = kd → Good A n → Sim prog w B vars env ρ σ s → wpE S x ρ σ Q → ∀ pos,
    wpAny (model prog w) A (boolOp pos op (evalEach es env)) (Got prog w B vars env ρ σ s Q) (fun _ _ => False) s
  tr : ∀ (env : Env) A ρ σ s Q, env.kindOf = kd → Good A n → Sim prog w B vars env ρ σ s → wpE S x ρ σ (asBool Q) →
    wpAny (model prog w) A (allTrue op es env) (GotB prog w B vars env ρ σ s Q) (fun _ _ => False) s
theorem SoundE.boolop {op : BoolOp} {es : List Expr} {x : X} {pos : Pos} (h : SoundB prog w B vars S n kd op es x) : SoundE prog w B vars S n kd (.BoolOp op es pos) x :=
  ⟨fun env A ρ σ s Q hk g M q => by rw [arm_eval_BoolOp]; exact h.ev env A ρ σ s Q hk g M q pos, fun env A ρ σ s Q hk g M q => wpAny_isTrue_BoolOp (h.tr env A ρ σ s Q hk g M q)⟩
theorem SoundB.one {op : BoolOp} {e : Expr} {x : X} (h : SoundE prog w B vars S n kd e x) : SoundB prog w B vars S n kd op [e] x := by
  refine ⟨fun env A ρ σ s Q hk g M q pos => h.ev env A ρ σ s Q hk g M q, fun env A ρ σ s Q hk g M q => ?_⟩
  have := h.tr env A ρ σ s Q hk g M q
  cases op with
  | And => refine wpAny_allTrue_And_cons (wpAny_mono this (fun b s₁ h₁ => ?_) fun _ _ x => x); cases b <;> simp only [Bool.false_eq_true, if_false, if_true] <;> first | exact h₁ | exact wpAny_allTrue_And_nil h₁
  | Or => refine wpAny_allTrue_Or_cons (wpAny_mono this (fun b s₁ h₁ => ?_) fun _ _ x => x); cases b <;> simp only [Bool.false_eq_true, if_false, if_true] <;> first | exact h₁ | exact wpAny_allTrue_Or_nil h₁

theorem boolOp_cons {M : Model} {A : Around} {E : Value → Shared → Prop} {s : Shared} {pos : Pos} {op : BoolOp} {x y : Sem Value} {r : List (Sem Value)} {Q : Value → Shared → Prop}
    (h : wpAny M A x (fun v s₁ => ∃ t, v = .bool t ∧ if (match op with | .And => t | .Or => !t) = true then wpAny M A (boolOp pos op (y :: r)) Q E s₁ else Q v s₁) E s) : wpAny M A (boolOp pos op (x :: y :: r)) Q E s := by
  show wpAny M A (do
    let v ← x
    standAt pos
    let t ← holding [v] (truthy v)
    match op, t with
    | .And, false | .Or, true => pure v
    | _, _ => boolOp pos op (y :: r)) Q E s
  refine wpAny_bind (wpAny_mono h (fun v s₁ h₁ => wpAny_bind (wpAny_standAt ?_)) fun _ _ x => x)
  obtain ⟨t, rfl, h₁⟩ := h₁
  refine wpAny_bind (wpAny_holding (wpAny_truthy_bool ?_))
  cases op <;> cases t <;> first | exact wpAny_pure h₁ | exact h₁

theorem SoundB.and {e f : Expr} {es : List Expr} {a b : X} (h : SoundE prog w B vars S n kd e a) (r : SoundB prog w B vars S n kd .And (f :: es) b) : SoundB prog w B vars S n kd .And (e :: f :: es) (.and a b) := by
  refine ⟨fun env A ρ σ s Q hk g M q pos => ?_, fun env A ρ σ s Q hk g M q => ?_⟩
  · simp only [wpE] at q
    refine boolOp_cons (wpAny_mono (h.ev env A ρ σ s _ hk g M q) (fun v s₁ h₁ => ?_) fun _ _ x => x)
    obtain ⟨x, σ₁, rv, M₁, T₁, q₁⟩ := h₁
    cases x with
    | bool t =>
      simp only [VRel] at rv; subst rv
      refine ⟨t, rfl, ?_⟩
      cases t with
      | false => exact ⟨.bool false, σ₁, rfl, M₁, T₁, q₁⟩
      | true => exact wpAny_mono (r.ev env A ρ σ₁ s₁ Q hk g M₁ q₁ pos) (fun _ _ h => h.trans T₁) fun _ _ x => x
    | _ => exact q₁.elim
  · simp only [wpE] at q
    refine wpAny_allTrue_And_cons (wpAny_mono (h.tr env A ρ σ s _ hk g M q) (fun t s₁ h₁ => ?_) fun _ _ x => x)
    obtain ⟨σ₁, M₁, T₁, q₁⟩ := h₁
    cases t with
    | false => exact ⟨σ₁, M₁, T₁, q₁⟩
    | true => exact wpAny_mono (r.tr env A ρ σ₁ s₁ Q hk g M₁ q₁) (fun _ _ h => h.trans T₁) fun _ _ x => x
theorem SoundB.or {e f : Expr} {es : List Expr} {a b : X} (h : SoundE prog w B vars S n kd e a) (r : SoundB prog w B vars S n kd .Or (f :: es) b) : SoundB prog w B vars S n kd .Or (e :: f :: es) (.or a b) := by
  refine ⟨fun env A ρ σ s Q hk g M q pos => ?_, fun env A ρ σ s Q hk g M q => ?_⟩
  · simp only [wpE] at q
    refine boolOp_cons (wpAny_mono (h.ev env A ρ σ s _ hk g M q) (fun v s₁ h₁ => ?_) fun _ _ x => x)
    obtain ⟨x, σ₁, rv, M₁, T₁, q₁⟩ := h₁
    cases x with
    | bool t =>
      simp only [VRel] at rv; subst rv
      refine ⟨t, rfl, ?_⟩
      cases t with
      | true => exact ⟨.bool true, σ₁, rfl, M₁, T₁, q₁⟩
      | false => exact wpAny_mono (r.ev env A ρ σ₁ s₁ Q hk g M₁ q₁ pos) (fun _ _ h => h.trans T₁) fun _ _ x => x
    | _ => exact q₁.elim
  · simp only [wpE] at q
    refine wpAny_allTrue_Or_cons (wpAny_mono (h.tr env A ρ σ s _ hk g M q) (fun t s₁ h₁ => ?_) fun _ _ x => x)
    obtain ⟨σ₁, M₁, T₁, q₁⟩ := h₁
    cases t with
    | true => exact ⟨σ₁, M₁, T₁, q₁⟩
    | false => exact wpAny_mono (r.tr env A ρ σ₁ s₁ Q hk g M₁ q₁) (fun _ _ h => h.trans T₁) fun _ _ x => x

theorem SoundE.list {es : List Expr} {xs : List X} {pos : Pos} (h : SoundEs prog w B vars S n kd es xs) (hz : es.length ≤ 1000 := by decide) : SoundE prog w B vars S n kd (.List es pos) (.list xs) := by
  refine SoundE.of (fun _ => rfl) fun env A ρ σ s Q hk g M q => ?_
  simp only [wpE] at q
  refine wpAny_List (wpAny_mono (h env A ρ σ s _ hk g M q pos) (fun vs s₁ h₁ => ?_) fun _ _ x => x)
  obtain ⟨hl, ys, σ₁, rs, M₁, T₁, q₁⟩ := h₁
  refine ⟨by rw [sizeLine_eq]; omega, ?_⟩
  exact (alloc_list (tk := s₁.toks) M₁ rs (by omega) q₁ (get_size _) (fun b o e => Heap.get?_push_of_some _ e) ⟨0, Heap.get?_push_size _ rfl⟩).trans T₁
theorem SoundE.tup {es : List Expr} {xs : List X} {k : Nat} {pos : Pos} (h : SoundEs prog w B vars S n kd es xs) (hz : es.length ≤ 1000 := by decide) : SoundE prog w B vars S n kd (.Tuple es k pos) (.tup xs) := by
  refine SoundE.of (fun _ => rfl) fun env A ρ σ s Q hk g M q => ?_
  simp only [wpE] at q
  refine wpAny_Tuple (wpAny_mono (h env A ρ σ s _ hk g M q pos) (fun vs s₁ h₁ => ?_) fun _ _ x => x)
  obtain ⟨hl, ys, σ₁, rs, M₁, T₁, q₁⟩ := h₁
  refine ⟨by rw [sizeLine_eq]; omega, ?_⟩
  obtain ⟨M₂, T₂⟩ := M₁.keeps (h' := s₁.heap.push { cls := .type "tuple", data := .seq vs.toArray }) s₁.toks fun b o e => Heap.get?_push_of_some _ e
  refine ⟨.tup ys, σ₁, ?_, M₂, T₁.trans T₂, q₁⟩
  simp only [VRel]
  exact ⟨_, _, _, rfl, Heap.get?_push_size _ rfl, by simp; omega, by simpa using rs.step M₁ T₂⟩

theorem subs_any (slice : Expr) (o i : Value) : ∃ ops, subscripted slice false o i = operate ops (getItem o i) := by
  unfold subscripted
  split
  · exact ⟨_, rfl⟩
  · rename_i h; cases h
  · exact ⟨_, rfl⟩

theorem tail_any' {value slice : Expr} {o i : Value} {T id : String} {Q : Value → Shared → Prop} {E : Value → Shared → Prop} (hT : s.TypeIs o T) (hl : typeLookup (.type T) "__getitem__" = pure (some (.builtin id))) (hg : wpAny (model prog w) A (getItem o i) Q E s) :
    wpAny (model prog w) A (subscriptTail value slice o i) Q E s := by
  obtain ⟨ops, h⟩ := subs_any slice o i
  exact tail_any hT hl hg h

theorem idx_cases {l : List V} {i : Int} {x : V} (h : idxL l i = some x) (hz : l.length ≤ 16777216) : ∃ j : Nat, l[j]? = some x ∧ j < l.length ∧ ((0 ≤ i ∧ i = j) ∨ (i < 0 ∧ -(l.length : Int) ≤ i ∧ i + l.length = j)) := by
  unfold idxL at h
  split at h
  · refine ⟨i.toNat, h, ?_, .inl ⟨by assumption, by omega⟩⟩
    exact (List.getElem?_eq_some_iff.mp h).1
  · split at h
    · refine ⟨_, h, (List.getElem?_eq_some_iff.mp h).1, .inr ⟨by omega, by omega, by omega⟩⟩
    · cases h
theorem seqIndex_of {i : Int} {j n : Nat} (hj : j < n) (h : (0 ≤ i ∧ i = j) ∨ (i < 0 ∧ -(n : Int) ≤ i ∧ i + n = j)) : seqIndex? i n = some j := by
  unfold seqIndex?
  rcases h with ⟨h1, h2⟩ | ⟨h1, h2, h3⟩
  · have : ¬ i < 0 := by omega
    simp only [this, if_false]
    rw [if_pos (by simp; omega)]; congr; omega
  · simp only [h1, if_true]
    rw [if_pos (by simp; omega)]; congr; omega

theorem sub_sound {value slice : Expr} {o i : Value} {x y v : V} {Q : Post} {mg mb} (T : TopOK B G mg mb) (M : Sim prog w B vars env ρ σ s) (ro : VRel s.heap x o) (ri : VRel s.heap y i) (e : subV σ x y = some v) (q : Q v σ) :
    wpAny (model prog w) A (subscriptTail value slice o i) (Got prog w B vars env ρ σ s Q) (fun _ _ => False) s := by
  unfold subV at e
  split at e
  · simp only [VRel] at ro ri; obtain ⟨a, vs, k, rfl, g, z, rs⟩ := ro; obtain ⟨t, rfl⟩ := ri
    have hl := rs.length
    simp only [Array.length_toList] at hl
    obtain ⟨j, h1, h2, h3⟩ := idx_cases e (by omega)
    obtain ⟨u, h4, h5⟩ := rs.get h1
    have ht : IsTup s.heap a vs := ⟨_, g, rfl, k, rfl⟩
    refine tail_any' ht.typeIs slot_tuple_getitem.lookup (getItem_tuple (j := j) ht (by omega) (by omega) (seqIndex_of (by omega) (by rw [hl]; exact h3)) (by simpa using h4) (Got.here h5 M q))
  · simp only [VRel] at ro ri; obtain ⟨t, rfl⟩ := ro; obtain ⟨u, rfl⟩ := ri
    rename_i x i
    split at e
    · rename_i hi
      simp only [Option.map_eq_some_iff] at e
      obtain ⟨y, e, rfl⟩ := e
      simp only [strAt, Option.map_eq_some_iff] at e
      obtain ⟨c, e, rfl⟩ := e
      have hlt := (List.getElem?_eq_some_iff.mp e).1
      refine tail_any' (typeIs_str s x t) slot_str_getitem.lookup (getItem_str (c := c) (by simp; omega) ?_ (Got.tok (x := .str ⟨#[c]⟩) M (by simp [VRel]) q))
      rw [seqIndex_of (j := i.toNat) (by simpa [Str.length] using hlt) (.inl ⟨hi.1, by omega⟩)]
      simpa using e
    · cases e
  · simp only [VRel] at ro; subst ro
    split at e
    · simp only [VRel] at ri; obtain ⟨t, rfl⟩ := ri
      rename_i hp
      obtain ⟨vs, ⟨hpl, _⟩, z, rs⟩ := M.core.objs _ _ hp
      have hl := rs.length
      simp only [Array.length_toList] at hl
      obtain ⟨j, h1, h2, h3⟩ := idx_cases e (by omega)
      obtain ⟨u, h4, h5⟩ := rs.get h1
      refine tail_any' hpl.typeIs slot_list_getitem.lookup ?_
      rcases h3 with ⟨h3, h6⟩ | ⟨h3, h6, h7⟩
      · exact wpAny_getItem_list hpl h3 (by omega) (by rw [show Int.toNat _ = j from by omega]; simpa using h4) (Got.here h5 M q)
      · exact wpAny_getItem_list_neg hpl h3 (by omega) (by omega) (by rw [show Int.toNat _ = j from by omega]; simpa using h4) (Got.here h5 M q)
    · simp only [VRel] at ri; obtain ⟨t, rfl⟩ := ri
      rename_i hp
      obtain ⟨kvs, hd, hk, hv⟩ := M.core.objs _ _ hp
      rcases look_valueAt hk hv _ with ⟨h1, _⟩ | ⟨x', v', h1, h2, h3⟩
      · rw [h1] at e; cases e
      · rw [h1] at e; cases e
        exact tail_any' hd.typeIs slot_dict_getitem.lookup (wpAny_getItem_of (knd := PySem.strKind prog w) (by simp [PySem.strKind, Value.isStrOf]) hd.mapOf h2 (Got.tok M h3 q))
    · simp only [VRel] at ri; obtain ⟨t, rfl⟩ := ri
      rename_i hp
      obtain ⟨kvs, hd, hk, hv⟩ := M.core.objs _ _ hp
      rcases look_valueAt hk hv _ with ⟨h1, _⟩ | ⟨x', v', h1, h2, h3⟩
      · rw [h1] at e; cases e
      · rw [h1] at e; cases e
        exact tail_any' hd.typeIs slot_dict_getitem.lookup (wpAny_getItem_of (knd := PySem.intKind prog w) (by simp [PySem.intKind, Value.isInt]) hd.mapOf h2 (Got.tok M h3 q))
    · cases e
  · cases e

theorem SoundE.sub {l r : Expr} {a b : X} {pos : Pos} {mg mb} (T : TopOK B G mg mb) (ha : SoundE prog w B vars S n kd l a) (hb : SoundE prog w B vars S n kd r b) : SoundE prog w B vars S n kd (.Subscript l r pos) (.sub a b) := by
  refine SoundE.of (fun _ => rfl) fun env A ρ σ s Q hk g M q => ?_
  simp only [wpE] at q
  refine Subscript_ (wpAny_mono (ha.ev env A ρ σ s _ hk g M q) (fun va s₁ h₁ => ?_) fun _ _ x => x)
  obtain ⟨x, σ₁, rv, M₁, T₁, q₁⟩ := h₁
  refine wpAny_mono (hb.ev env A ρ σ₁ s₁ _ hk g M₁ q₁) (fun vb s₂ h₂ => ?_) fun _ _ x => x
  obtain ⟨y, σ₂, rv₂, M₂, T₂, v, hv, q₂⟩ := h₂
  exact wpAny_mono (sub_sound T M₂ (rv.step M₁ T₂) rv₂ hv q₂) (fun _ _ h => h.trans (T₁.trans T₂)) fun _ _ x => x
end
end Mine

namespace Mine
open PySem PyProof.Rows

section
variable {prog : Program} {w : World} {B : Shared} {vars : List Str} {S : Spec} {n : Nat} {G : Gl} {kd : Str → Option NameKind} {env : Env} {ρ : Loc} {σ σ₁ : Store} {s s₁ s' : Shared} {A : Around}

/-- the name of a built-in -/
theorem name_bi {x : Str} {v : Value} {pos : Pos} {mg mb} {Q : Value → Shared → Prop} {E : Value → Shared → Prop} (T : TopOK B G mg mb) (M : Sim prog w B vars env ρ σ s) (hx : biTab.lookup x = some v) (hk : env.kindOf x = some .globalImplicit) (hd : (x == ("__debug__" : Str)) = false) (q : Q v s) :
    wpAny (model prog w) A (eval (.Name x pos) env) Q E s := by
  obtain ⟨h1, h2⟩ := T.bi x v hx
  refine Calls.Name_function_global M.frame.kind hk (Calls.loadGlobal_builtin (mg := mg) (mb := mb) ?_ h1 ?_ h2 q) hd
  · rw [M.frame.glob]; exact T.g.keeps M.core.base
  · rw [M.frame.bltn]; exact T.b.keeps M.core.base

theorem backTo_cons {pos : Pos} {e : Expr} {es : List Expr} {env : Env} (hs : starred e = false) : backTo pos (starEach (e :: es) env) = (false, eval e env) :: backTo pos (starEach es env) := by
  cases e <;> first | rfl | cases hs
theorem backTo_plain {pos : Pos} {env : Env} : ∀ {es : List Expr}, es.all (fun e => !starred e) = true → (backTo pos (starEach es env)).any (·.1) = false
  | [], _ => rfl
  | e :: es, h => by
    simp only [List.all_cons, Bool.and_eq_true, Bool.not_eq_true'] at h
    rw [backTo_cons h.1, List.any_cons, backTo_plain h.2]; rfl

/-- a built-in function or type called with plain arguments -/
theorem call_bi {x : Str} {f : Value} {p pos : Pos} {es : List Expr} {xs : List X} {mg mb} {Q : Post} {Q' : List V → Store → Prop} (T : TopOK B G mg mb) (g : Good A n) (hk : env.kindOf = kd) (M : Sim prog w B vars env ρ σ s) (hx : biTab.lookup x = some f)
    (hkx : kd x = some .globalImplicit) (hd : (x == ("__debug__" : Str)) = false) (hne : es ≠ []) (hst : es.all (fun e => !starred e) = true) (h : SoundEs prog w B vars S n kd es xs) (q : wpEs S xs ρ σ Q')
    (hc : ∀ ys vs σ₁ s₁, VRels s₁.heap ys vs → Sim prog w B vars env ρ σ₁ s₁ → Q' ys σ₁ → wpAny (model prog w) A (call f vs) (Got prog w B vars env ρ σ₁ s₁ Q) (fun _ _ => False) s₁) (hf : (∃ id, f = .builtin id) ∨ ∃ t, f = .type t) :
    wpAny (model prog w) A (eval (.Call (.Name x p) es [] pos) env) (Got prog w B vars env ρ σ s Q) (fun _ _ => False) s := by
  show wpAny _ A (do callWith pos (← eval (.Name x p) env) [] (backTo pos (starEach es env)) (backToKw pos (keywordEach [] env))) _ _ s
  refine wpAny_bind (name_bi T M hx (by rw [hk]; exact hkx) hd ?_)
  show wpAny _ A (callWith pos f [] (backTo pos (starEach es env)) []) _ _ s
  have args : wpAny (model prog w) A (evalArgs f true (backTo pos (starEach es env)) []) (fun a s₁ => wpAny (model prog w) A (call f ([] ++ a.pos) a.kw) (Got prog w B vars env ρ σ s Q) (fun _ _ => False) s₁) (fun _ _ => False) s := by
    cases es with
    | nil => exact absurd rfl hne
    | cons e es =>
      have hs : starred e = false := by simpa using (List.all_eq_true.mp hst e (.head _))
      have := h env A ρ σ s _ hk g M q pos
      rw [backTo_cons hs] at this ⊢
      refine Calls.evalArgs_plain (wpAny_mono this (fun vs s₁ h₁ => ?_) fun _ _ x => x)
      obtain ⟨_, ys, σ₁, rs, M₁, T₁, q₁⟩ := h₁
      exact wpAny_mono (hc ys vs σ₁ s₁ rs M₁ q₁) (fun _ _ h => h.trans T₁) fun _ _ x => x
  rcases hf with ⟨id, rfl⟩ | ⟨t, rfl⟩
  · exact Calls.callWith_builtin (backTo_plain hst) args
  · exact PySem.callWith_type (backTo_plain hst) args

theorem VRels.one' {h : Heap} {x : V} {vs : List Value} (r : VRels h [x] vs) : ∃ v, vs = [v] ∧ VRel h x v := by
  simp only [VRels] at r
  obtain ⟨v, r, rfl, a, rfl⟩ := r
  exact ⟨v, rfl, a⟩
theorem VRels.two' {h : Heap} {x y : V} {vs : List Value} (r : VRels h [x, y] vs) : ∃ v u, vs = [v, u] ∧ VRel h x v ∧ VRel h y u := by
  simp only [VRels] at r
  obtain ⟨v, r, rfl, a, u, r', rfl, b, rfl⟩ := r
  exact ⟨v, u, rfl, a, b⟩

theorem not_debug {x : Str} (h : ∃ v, biTab.lookup x = some v) : (x == ("__debug__" : Str)) = false := by
  cases e : x == ("__debug__" : Str) with
  | false => rfl
  | true =>
    obtain ⟨v, h⟩ := h
    rw [beq_iff_eq.mp e] at h
    exact absurd h (by rw [show biTab.lookup ("__debug__" : Str) = none from by decide +kernel]; exact fun q => nomatch q)

theorem SoundE.call1 {x : Str} {f : Value} {p pos : Pos} {e : Expr} {a r : X} {mg mb} (T : TopOK B G mg mb) (hx : biTab.lookup x = some f) (hkx : kd x = some .globalImplicit) (hs : starred e = false) (h : SoundE prog w B vars S n kd e a)
    (hf : (∃ id, f = .builtin id) ∨ ∃ t, f = .type t) (K : V → Store → Post → Prop) (hr : ∀ ρ σ Q, wpE S r ρ σ Q → wpE S a ρ σ (fun v σ₁ => K v σ₁ Q))
    (hc : ∀ (env : Env) A ρ y v σ₁ s₁ Q, Good A n → VRel s₁.heap y v → Sim prog w B vars env ρ σ₁ s₁ → K y σ₁ Q → wpAny (model prog w) A (call f [v]) (Got prog w B vars env ρ σ₁ s₁ Q) (fun _ _ => False) s₁) :
    SoundE prog w B vars S n kd (.Call (.Name x p) [e] [] pos) r := by
  refine SoundE.of (fun _ => rfl) fun env A ρ σ s Q hk g M q => ?_
  refine call_bi (xs := [a]) (Q' := fun ys σ₁ => match ys with | [y] => K y σ₁ Q | _ => False) T g hk M hx hkx (not_debug ⟨_, hx⟩) (by simp) (by simp [hs]) (SoundEs.cons h .nil hs) ?_ (fun ys vs σ₁ s₁ rs M₁ q₁ => ?_) hf
  · simp only [wpEs]
    exact hr ρ σ Q q
  · match ys, q₁ with
    | [y], q₁ =>
      obtain ⟨v, rfl, rv⟩ := rs.one'
      exact hc env A ρ y v σ₁ s₁ Q g rv M₁ q₁

theorem SoundE.call2 {x : Str} {f : Value} {p pos : Pos} {e e' : Expr} {a b r : X} {mg mb} (T : TopOK B G mg mb) (hx : biTab.lookup x = some f) (hkx : kd x = some .globalImplicit) (hs : starred e = false) (hs' : starred e' = false) (h : SoundE prog w B vars S n kd e a) (h' : SoundE prog w B vars S n kd e' b)
    (hf : (∃ id, f = .builtin id) ∨ ∃ t, f = .type t) (K : V → V → Store → Post → Prop) (hr : ∀ ρ σ Q, wpE S r ρ σ Q → wpE S a ρ σ (fun v σ₁ => wpE S b ρ σ₁ fun u σ₂ => K v u σ₂ Q))
    (hc : ∀ (env : Env) A ρ y z v u σ₁ s₁ Q, Good A n → VRel s₁.heap y v → VRel s₁.heap z u → Sim prog w B vars env ρ σ₁ s₁ → K y z σ₁ Q → wpAny (model prog w) A (call f [v, u]) (Got prog w B vars env ρ σ₁ s₁ Q) (fun _ _ => False) s₁) :
    SoundE prog w B vars S n kd (.Call (.Name x p) [e, e'] [] pos) r := by
  refine SoundE.of (fun _ => rfl) fun env A ρ σ s Q hk g M q => ?_
  refine call_bi (xs := [a, b]) (Q' := fun ys σ₁ => match ys with | [y, z] => K y z σ₁ Q | _ => False) T g hk M hx hkx (not_debug ⟨_, hx⟩) (by simp) (by simp [hs, hs']) (SoundEs.cons h (SoundEs.cons h' .nil hs') hs) ?_ (fun ys vs σ₁ s₁ rs M₁ q₁ => ?_) hf
  · simp only [wpEs]
    exact hr ρ σ Q q
  · match ys, q₁ with
    | [y, z], q₁ =>
      obtain ⟨v, u, rfl, rv, ru⟩ := rs.two'
      exact hc env A ρ y z v u σ₁ s₁ Q g rv ru M₁ q₁

theorem Got.toks {Q : Post} {v : Value} {x : V} {tk : Nat} (M : Sim prog w B vars env ρ σ s) (h : VRel s.heap x v) (q : Q x σ) : Got prog w B vars env ρ σ s Q v { s with toks := tk } := Got.tok M h q
/-- nothing lost, a plain value -/
theorem Got.grown {Q : Post} {v : Value} {x : V} {h' : Heap} {tk : Nat} (M : Sim prog w B vars env ρ σ s) (hk : ∀ b o, s.heap.get? b = some o → h'.get? b = some o) (h : VRel h' x v) (q : Q x σ) : Got prog w B vars env ρ σ s Q v { s with heap := h', toks := tk } := by
  obtain ⟨M', T'⟩ := M.keeps tk hk
  exact ⟨x, σ, h, M', T', q⟩

theorem SoundE.len {p pos : Pos} {e : Expr} {a : X} {mg mb} (T : TopOK B G mg mb) (hkx : kd "len" = some .globalImplicit) (h : SoundE prog w B vars S n kd e a) (hs : starred e = false := by rfl) : SoundE prog w B vars S n kd (.Call (.Name "len" p) [e] [] pos) (.len a) := by
  refine SoundE.call1 T (f := .builtin "len") (by decide +kernel) hkx hs h (.inl ⟨_, rfl⟩) (fun va σ₁ Q => ∃ n, lenV σ₁ va = some n ∧ n ≤ 1000000 ∧ Q (.int n) σ₁) (fun _ _ _ q => by simpa only [wpE] using q) fun env A ρ y v σ₁ s₁ Q g rv M q => ?_
  obtain ⟨k, e, hk, q⟩ := q
  unfold lenV at e
  split at e
  · cases e
    simp only [VRel] at rv
    obtain ⟨a, vs, m, rfl, gg, z, rs⟩ := rv
    have hl := rs.length
    simp only [Array.length_toList] at hl
    exact len_tuple (items := vs) ⟨_, gg, rfl, m, rfl⟩ (by omega) (Got.tok (x := .int _) M (by rw [hl]; simp [VRel]) q)
  · cases e
    simp only [VRel] at rv
    obtain ⟨t, rfl⟩ := rv
    exact len_str (by omega) (Got.tok (x := .int _) M (by simp [VRel]) q)
  · simp only [VRel] at rv; subst rv
    split at e
    · rename_i hp
      cases e
      obtain ⟨vs, ⟨hpl, _⟩, z, rs⟩ := M.core.objs _ _ hp
      have hl := rs.length
      simp only [Array.length_toList] at hl
      exact Calls.call_len_list hpl (by omega) (Got.tok (x := .int _) M (by rw [hl]; simp [VRel]) q)
    · rename_i hp
      cases e
      obtain ⟨kvs, hd, hkk, hv⟩ := M.core.objs _ _ hp
      have hl := congrArg List.length hkk
      simp only [List.length_map] at hl
      exact call_len_dict (M.core.notMods T hp rfl) hd (by omega) (Got.tok (x := .int _) M (by rw [hl]; simp [VRel]) q)
    · rename_i hp
      cases e
      obtain ⟨kvs, hd, hkk, hv⟩ := M.core.objs _ _ hp
      have hl := congrArg List.length hkk
      simp only [List.length_map] at hl
      exact call_len_dict (M.core.notMods T hp rfl) hd (by omega) (Got.tok (x := .int _) M (by rw [hl]; simp [VRel]) q)
    · cases e
  · cases e

theorem SoundE.rng1 {p pos : Pos} {e : Expr} {a : X} {mg mb} (T : TopOK B G mg mb) (hkx : kd "range" = some .globalImplicit) (h : SoundE prog w B vars S n kd e a) (hs : starred e = false := by rfl) : SoundE prog w B vars S n kd (.Call (.Name "range" p) [e] [] pos) (.rng1 a) := by
  refine SoundE.call1 T (f := .type "range") (by decide +kernel) hkx hs h (.inr ⟨_, rfl⟩) (fun vb σ₁ Q => ∃ j, vb = .int j ∧ Q (.rng 0 j) σ₁) (fun _ _ _ q => by simpa only [wpE] using q) fun env A ρ y v σ₁ s₁ Q g rv M q => ?_
  obtain ⟨j, rfl, q⟩ := q
  simp only [VRel] at rv
  obtain ⟨t, rfl⟩ := rv
  refine call_range_1 (Got.grown (x := .rng 0 j) M (fun b o e => Heap.get?_push_of_some _ e) ?_ q)
  simp only [VRel]
  exact ⟨_, _, _, _, rfl, Heap.get?_push_size _ rfl⟩
theorem SoundE.rng2 {p pos : Pos} {e e' : Expr} {a b : X} {mg mb} (T : TopOK B G mg mb) (hkx : kd "range" = some .globalImplicit) (h : SoundE prog w B vars S n kd e a) (h' : SoundE prog w B vars S n kd e' b) (hs : starred e = false := by rfl) (hs' : starred e' = false := by rfl) : SoundE prog w B vars S n kd (.Call (.Name "range" p) [e, e'] [] pos) (.rng2 a b) := by
  refine SoundE.call2 T (f := .type "range") (by decide +kernel) hkx hs hs' h h' (.inr ⟨_, rfl⟩) (fun va vb σ₁ Q => ∃ i j, va = .int i ∧ vb = .int j ∧ Q (.rng i j) σ₁) (fun _ _ _ q => by simpa only [wpE] using q) fun env A ρ y z v u σ₁ s₁ Q g rv ru M q => ?_
  obtain ⟨i, j, rfl, rfl, q⟩ := q
  simp only [VRel] at rv ru
  obtain ⟨t, rfl⟩ := rv
  obtain ⟨t', rfl⟩ := ru
  refine call_range_2 (Got.grown (x := .rng i j) M (fun b o e => Heap.get?_push_of_some _ e) ?_ q)
  simp only [VRel]
  exact ⟨_, _, _, _, rfl, Heap.get?_push_size _ rfl⟩
theorem SoundE.max2 {p pos : Pos} {e e' : Expr} {a b : X} {mg mb} (T : TopOK B G mg mb) (hkx : kd "max" = some .globalImplicit) (h : SoundE prog w B vars S n kd e a) (h' : SoundE prog w B vars S n kd e' b) (hs : starred e = false := by rfl) (hs' : starred e' = false := by rfl) : SoundE prog w B vars S n kd (.Call (.Name "max" p) [e, e'] [] pos) (.max2 a b) := by
  refine SoundE.call2 T (f := .builtin "max") (by decide +kernel) hkx hs hs' h h' (.inl ⟨_, rfl⟩) (fun va vb σ₁ Q => ∃ i j, va = .int i ∧ vb = .int j ∧ Q (.int (max i j)) σ₁) (fun _ _ _ q => by simpa only [wpE] using q) fun env A ρ y z v u σ₁ s₁ Q g rv ru M q => ?_
  obtain ⟨i, j, rfl, rfl, q⟩ := q
  simp only [VRel] at rv ru
  obtain ⟨t, rfl⟩ := rv
  obtain ⟨t', rfl⟩ := ru
  refine max_two_ints g.hd fun h' tk hk => Got.grown (x := .int (max i j)) M hk ?_ q
  simp only [VRel]
  split
  · exact ⟨_, by rw [show max i j = j from by omega]⟩
  · exact ⟨_, by rw [show max i j = i from by omega]⟩

/-- the type's name -/
noncomputable def Ty.name : Ty → String
  | .int => "int" | .bool => "bool" | .str => "str" | .tuple => "tuple" | .list => "list" | .dict => "dict"

theorem SoundE.isi {p p' pos : Pos} {e : Expr} {a : X} {t : Ty} {x : Str} {mg mb} (T : TopOK B G mg mb) (hkx : kd "isinstance" = some .globalImplicit) (hx : biTab.lookup x = some (.type t.name)) (hkt : kd x = some .globalImplicit) (h : SoundE prog w B vars S n kd e a) (hs : starred e = false := by rfl) :
    SoundE prog w B vars S n kd (.Call (.Name "isinstance" p) [e, .Name x p'] [] pos) (.isi a t) := by
  refine SoundE.of (fun _ => rfl) fun env A ρ σ s Q hk g M q => ?_
  simp only [wpE] at q
  show wpAny _ A (do callWith pos (← eval (.Name "isinstance" p) env) [] (backTo pos (starEach [e, .Name x p'] env)) (backToKw pos (keywordEach [] env))) _ _ s
  refine wpAny_bind (name_bi T M (v := .builtin "isinstance") (by decide +kernel) (by rw [hk]; exact hkx) (by decide +kernel) ?_)
  refine Calls.callWith_builtin (backTo_plain (by simp only [List.all_cons, hs]; rfl)) ?_
  rw [backTo_cons hs, backTo_cons (by rfl)]
  refine Calls.evalArgs_plain (Calls.spliced_cons (wpAny_mono (h.ev env A ρ σ s _ hk g M q) (fun v s₁ h₁ => ?_) fun _ _ x => x))
  obtain ⟨y, σ₁, rv, M₁, T₁, r, hr, q₁⟩ := h₁
  refine Calls.spliced_cons (name_bi T M₁ (v := .type t.name) hx (by rw [hk]; exact hkt) (not_debug ⟨_, hx⟩) (Calls.spliced_nil ?_))
  refine wpAny_mono (Q := Got prog w B vars env ρ σ₁ s₁ Q) ?_ (fun _ _ h => h.trans T₁) fun _ _ x => x
  show wpAny _ A (call (.builtin "isinstance") [v, .type t.name]) _ _ s₁
  have G1 : ∀ b, r = b → Got prog w B vars env ρ σ₁ s₁ Q (.bool b) s₁ := fun b e => by subst e; exact Got.here (x := .bool r) rfl M₁ q₁
  have G2 : ∀ b, r = b → Got prog w B vars env ρ σ₁ s₁ Q (.bool b) { s₁ with toks := s₁.toks + 1 } := fun b e => by subst e; exact Got.tok (x := .bool r) M₁ rfl q₁
  unfold tyV at hr
  split at hr
  · cases hr; simp only [VRel] at rv; subst rv
    cases t <;> first | exact IsiPair.NoneType_int (G2 _ rfl) | exact IsiPair.NoneType_bool (G2 _ rfl) | exact IsiPair.NoneType_str (G2 _ rfl) | exact IsiPair.NoneType_tuple (G2 _ rfl) | exact IsiPair.NoneType_list (G2 _ rfl) | exact IsiPair.NoneType_dict (G2 _ rfl)
  · simp only [VRel] at rv; subst rv
    cases t <;> cases hr <;> first | exact IsiPair.bool_int (G1 _ rfl) | exact IsiPair.bool_bool (G1 _ rfl) | exact IsiPair.bool_str (G2 _ rfl) | exact IsiPair.bool_tuple (G2 _ rfl) | exact IsiPair.bool_list (G2 _ rfl) | exact IsiPair.bool_dict (G2 _ rfl)
  · simp only [VRel] at rv; obtain ⟨tk, rfl⟩ := rv
    cases t <;> cases hr <;> first | exact IsiPair.int_int (G1 _ rfl) | exact IsiPair.int_bool (G2 _ rfl) | exact IsiPair.int_str (G2 _ rfl) | exact IsiPair.int_tuple (G2 _ rfl) | exact IsiPair.int_list (G2 _ rfl) | exact IsiPair.int_dict (G2 _ rfl)
  · simp only [VRel] at rv; obtain ⟨tk, rfl⟩ := rv
    cases t <;> cases hr <;> first | exact IsiPair.str_int (G2 _ rfl) | exact IsiPair.str_bool (G2 _ rfl) | exact IsiPair.str_str (G1 _ rfl) | exact IsiPair.str_tuple (G2 _ rfl) | exact IsiPair.str_list (G2 _ rfl) | exact IsiPair.str_dict (G2 _ rfl)
  · simp only [VRel] at rv; obtain ⟨a, vs, m, rfl, gg, z, rs⟩ := rv
    cases t <;> cases hr <;> first | exact IsiPair.tuple_int gg rfl (G2 _ rfl) | exact IsiPair.tuple_bool gg rfl (G2 _ rfl) | exact IsiPair.tuple_str gg rfl (G2 _ rfl) | exact IsiPair.tuple_tuple gg rfl (G1 _ rfl) | exact IsiPair.tuple_list gg rfl (G2 _ rfl) | exact IsiPair.tuple_dict gg rfl (G2 _ rfl)
  · simp only [VRel] at rv; subst rv
    split at hr
    · rename_i hp
      obtain ⟨vs, ⟨⟨o, gg, hcx, _⟩, _⟩, _, rs⟩ := M₁.core.objs _ _ hp
      cases t <;> cases hr <;> first | exact IsiPair.list_int gg hcx (G2 _ rfl) | exact IsiPair.list_bool gg hcx (G2 _ rfl) | exact IsiPair.list_str gg hcx (G2 _ rfl) | exact IsiPair.list_tuple gg hcx (G2 _ rfl) | exact IsiPair.list_list gg hcx (G1 _ rfl) | exact IsiPair.list_dict gg hcx (G2 _ rfl)
    · rename_i hp
      obtain ⟨kvs, ⟨o, es, ep, gg, hcx, _⟩, _⟩ := M₁.core.objs _ _ hp
      cases t <;> cases hr <;> first | exact IsiPair.dict_int gg hcx.1 (G2 _ rfl) | exact IsiPair.dict_bool gg hcx.1 (G2 _ rfl) | exact IsiPair.dict_str gg hcx.1 (G2 _ rfl) | exact IsiPair.dict_tuple gg hcx.1 (G2 _ rfl) | exact IsiPair.dict_list gg hcx.1 (G2 _ rfl) | exact IsiPair.dict_dict gg hcx.1 (G1 _ rfl)
    · rename_i hp
      obtain ⟨kvs, ⟨o, es, ep, gg, hcx, _⟩, _⟩ := M₁.core.objs _ _ hp
      cases t <;> cases hr <;> first | exact IsiPair.dict_int gg hcx.1 (G2 _ rfl) | exact IsiPair.dict_bool gg hcx.1 (G2 _ rfl) | exact IsiPair.dict_str gg hcx.1 (G2 _ rfl) | exact IsiPair.dict_tuple gg hcx.1 (G2 _ rfl) | exact IsiPair.dict_list gg hcx.1 (G2 _ rfl) | exact IsiPair.dict_dict gg hcx.1 (G1 _ rfl)
    · cases hr
  · cases hr
end
end Mine

namespace Mine
open PySem PyProof.Rows

section
variable {prog : Program} {w : World} {B : Shared} {vars : List Str} {S : Spec} {n : Nat} {G : Gl} {kd : Str → Option NameKind} {env : Env} {ρ : Loc} {σ σ₁ : Store} {s s₁ s' : Shared} {A : Around}

theorem rng_small {a b : Int} (h : -1000000 ≤ a ∧ a ≤ 1000000 ∧ -1000000 ≤ b ∧ b ≤ 1000000) : Builtin.Range.small a b 1 = true ∧ Builtin.Range.rangeSize a b 1 = ((b - a).toNat : Nat) := by
  have e : Builtin.Range.rangeSize a b 1 = ((b - a).toNat : Nat) := by
    unfold Builtin.Range.rangeSize
    simp
    split <;> omega
  refine ⟨?_, e⟩
  unfold Builtin.Range.small
  rw [e]
  unfold Builtin.Range.rangeFitsLong
  simp
  omega

theorem rngItems_length (a b : Int) : (rngItems a b).length = (b - a).toNat := by simp [rngItems]
theorem rngItems_get (a b : Int) {i : Nat} (h : i < (b - a).toNat) : (rngItems a b)[i]? = some (.int (a + i)) := by simp [rngItems, h]

theorem SoundE.listOf {p pos : Pos} {e : Expr} {a : X} {mg mb} (T : TopOK B G mg mb) (hkx : kd "list" = some .globalImplicit) (h : SoundE prog w B vars S n kd e a) (hs : starred e = false := by rfl) : SoundE prog w B vars S n kd (.Call (.Name "list" p) [e] [] pos) (.listOf a) := by
  refine SoundE.call1 T (f := .type "list") (by decide +kernel) hkx hs h (.inr ⟨_, rfl⟩) (fun va σ₁ Q => ∃ items, seqOf σ₁ va = some items ∧ items.length ≤ 1000000 ∧ fresh σ₁ (.list true items) Q) (fun _ _ _ q => by simpa only [wpE] using q) fun env A ρ y v σ₁ s₁ Q g rv M q => ?_
  obtain ⟨items, e, hz, q⟩ := q
  unfold seqOf at e
  split at e
  · simp only [VRel] at rv; subst rv
    split at e
    · rename_i hp
      cases e
      obtain ⟨vs, ⟨⟨o, gg, hc, k, hdd⟩, _⟩, z, rs⟩ := M.core.objs _ _ hp
      refine call_list_seq _ (.inl rfl) gg hc hdd (fun h' c' hk hD => alloc_list (tk := s₁.toks) (vs := vs.toList) M rs (by simpa using z) q (get_size _) hk ⟨c', by simpa using hD⟩) (by rw [sizeLine_eq]; exact z)
    · cases e
  · split at e
    · cases e
      simp only [VRel] at rv
      obtain ⟨r, t, u, v', rfl, hr⟩ := rv
      rename_i hh
      have hsm := rng_small hh
      refine call_list_range g.hd hr hsm.1 hsm.2 (by omega) fun h' tk acc c' hk hD hacc => ?_
      refine alloc_list (vs := acc.toList) M ?_ (by have := hacc.1; simp; omega) q (get_size _) hk ⟨c', by simpa using hD⟩
      refine VRels.of_get (by simp [rngItems_length, hacc.1]) fun i x v h1 h2 => ?_
      have hi := (List.getElem?_eq_some_iff.mp h1).1
      rw [rngItems_length] at hi
      rw [rngItems_get _ _ hi] at h1; cases h1
      obtain ⟨t, rfl⟩ := hacc.2 i v (by simpa using h2)
      simp [VRel]
    · cases e
  · cases e

theorem SoundE.call {f : Str} {i : Nat} {a : Addr} {p pos : Pos} {es : List Expr} {xs : List X} {mg mb} (T : TopOK B G mg mb) (K : SpecOK prog w B S n G) (hf : G.fns.lookup f = some (i, a)) (hkf : kd f = some .globalImplicit) (hd : (f == ("__debug__" : Str)) = false)
    (h : SoundEs prog w B vars S n kd es xs) (hne : es ≠ []) (hst : es.all (fun e => !starred e) = true) : SoundE prog w B vars S n kd (.Call (.Name f p) es [] pos) (.call i xs) := by
  refine SoundE.of (fun _ => rfl) fun env A ρ σ s Q hk g M q => ?_
  simp only [wpE] at q
  show wpAny _ A (do callWith pos (← eval (.Name f p) env) [] (backTo pos (starEach es env)) (backToKw pos (keywordEach [] env))) _ _ s
  obtain ⟨hm, o, fd, ho, hfd⟩ := T.fn f i a hf
  refine wpAny_bind (Calls.Name_function_global M.frame.kind (by rw [hk]; exact hkf) (Calls.loadGlobal_global (mg := mg) (by rw [M.frame.glob]; exact T.g.keeps M.core.base) hm ?_) hd)
  show wpAny _ A (callWith pos (.ref a) [] (backTo pos (starEach es env)) []) _ _ s
  refine Calls.callWith_function (o := o) (fd := fd) ?_
  cases es with
  | nil => exact absurd rfl hne
  | cons e es =>
    have hs : starred e = false := by simpa using (List.all_eq_true.mp hst e (.head _))
    have := h env A ρ σ s _ hk g M q pos
    rw [backTo_cons hs] at this ⊢
    refine Calls.evalArgs_plain (wpAny_mono this (fun vs s₁ h₁ => ?_) fun _ _ x => x)
    obtain ⟨_, ys, σ₁, rs, M₁, T₁, q₁⟩ := h₁
    refine ⟨⟨M₁.core.base _ _ ho, hfd⟩, wpAny_call (codeAny_mono (K f i a hf ys vs σ₁ s₁ Q A g M₁.core rs q₁) fun r s₂ h₂ => ?_)⟩
    obtain ⟨v, x, σ₂, rfl, rv, C, T₂, q₂⟩ := h₂
    obtain ⟨M₂, T₃⟩ := M₁.after T₂ C fun _ _ q => q.elim
    exact ⟨x, σ₂, rv, M₂, T₁.trans T₃, q₂⟩

/-- the base of a method's call is no bare call -/
noncomputable def plainBase : Expr → Bool
  | .Name .. => true
  | .Subscript .. => true
  | _ => false
theorem base_of {o : Expr} {name : Str} {env : Env} (h : plainBase o = true) : attributeBase o name env (eval o env) = eval o env := by
  cases o <;> first | rfl | cases h

theorem few_of {args : List Expr} {pos : Pos} {env : Env} (hs : args.all (fun e => !starred e) = true) (hl : args.length < 20) : ((backTo pos (starEach args env)).all (fun x => !x.1) && (backToKw pos (keywordEach [] env)).all (fun x => x.1.isSome)
      && decide (args.length + ([] : List Keyword).length + (if ([] : List Keyword).isEmpty then 0 else 1) < 30)) = true := by
  have h1 : (backTo pos (starEach args env)).all (fun x => !x.1) = true := by
    have := backTo_plain (pos := pos) (env := env) hs
    rw [List.all_eq_true]
    intro x hx
    rw [List.any_eq_false] at this
    simpa using this x hx
  rw [h1]
  simp only [Bool.true_and, Bool.and_eq_true, decide_eq_true_eq]
  exact ⟨rfl, by simp; omega⟩

theorem SoundE.append {o e : Expr} {a b : X} {apos pos : Pos} (ho : SoundE prog w B vars S n kd o a) (he : SoundE prog w B vars S n kd e b) (hb : plainBase o = true := by rfl) (hs : starred e = false := by rfl) (hl : (apos.endLine == pos.line) = true := by rfl) :
    SoundE prog w B vars S n kd (.Call (.Attribute o "append" apos) [e] [] pos) (.append a b) := by
  refine SoundE.of (fun _ => rfl) fun env A ρ σ s Q hk g M q => ?_
  simp only [wpE] at q
  refine wpAny_Call_method (base_of hb) (few_of (by simp [hs]) (by simp)) hl F.plainAttrs_list F.slot_list_append F.type_list_append (wpAny_mono (ho.ev env A ρ σ s _ hk g M q) (fun ov s₁ h₁ => ?_) fun _ _ x => x)
  obtain ⟨x, σ₁, rv, M₁, T₁, p, l₀, rfl, hp, q₁⟩ := h₁
  simp only [VRel] at rv; subst rv
  obtain ⟨vs₀, ⟨_, hpl₀⟩, _, _⟩ := M₁.core.objs _ _ hp
  have hpl₀ := hpl₀ rfl
  refine ⟨hpl₀.isList.typeIs, fun c e => by cases e; obtain ⟨k, gg⟩ := hpl₀; exact ⟨_, gg, rfl⟩, ?_⟩
  rw [backTo_cons hs]
  refine P.append_list (wpAny_mono (he.ev env A ρ σ₁ s₁ _ hk g M₁ q₁) (fun v s₂ h₂ => ?_) fun _ _ x => x)
  obtain ⟨y, σ₂, rv₂, M₂, T₂, l, hl2, hz, q₂⟩ := h₂
  obtain ⟨vs, ⟨_, hpl⟩, z, rs⟩ := M₂.core.objs _ _ hl2
  obtain ⟨k, gg⟩ := hpl rfl
  have hlen := rs.length
  simp only [Array.length_toList] at hlen
  refine ⟨vs, k, by rw [sizeLine_eq]; omega, gg, ?_⟩
  have hu := Heap.get?_update_self (Obj.mapSeq fun xs => xs.push v) gg (by rw [Obj.mapSeq_push_plain]; rfl)
  rw [Obj.mapSeq_push_plain] at hu
  obtain ⟨M₃, T₃⟩ := M₂.set (o' := .list true (l ++ [y])) (h' := s₂.heap.update p (Obj.mapSeq fun xs => xs.push v)) s₂.toks hl2 rfl (fun b o hb e => by rw [Heap.get?_update_other _ _ (Ne.symm hb)]; exact e)
    ⟨vs.push v, ⟨(show Heap.PlainList _ _ _ from ⟨_, hu⟩).isList, fun _ => ⟨_, hu⟩⟩, by simp; omega, by
      rw [Array.toList_push]
      have ht : ∀ c o, s₂.heap.get? c = some o → tupLike o → (s₂.heap.update p (Obj.mapSeq fun xs => xs.push v)).get? c = some o := fun c o e ht => by
        rw [Heap.get?_update_other _ _ (fun q => by subst q; rw [gg] at e; cases e; revert ht; unfold tupLike; simp)]; exact e
      exact (rs.keep ht).append (.one (rv₂.keep ht))⟩
  exact ⟨.none, _, rfl, M₃, (T₁.trans T₂).trans T₃, q₂⟩

theorem SoundE.get1 {o e : Expr} {a b : X} {apos pos : Pos} {mg mb} (T : TopOK B G mg mb) (ho : SoundE prog w B vars S n kd o a) (he : SoundE prog w B vars S n kd e b) (hb : plainBase o = true := by rfl) (hs : starred e = false := by rfl) (hl : (apos.endLine == pos.line) = true := by rfl) :
    SoundE prog w B vars S n kd (.Call (.Attribute o "get" apos) [e] [] pos) (.get1 a b) := by
  refine SoundE.of (fun _ => rfl) fun env A ρ σ s Q hk g M q => ?_
  simp only [wpE] at q
  refine wpAny_Call_method (base_of hb) (few_of (by simp [hs]) (by simp)) hl F.plainAttrs_dict F.slot_dict_get F.type_dict_get (wpAny_mono (ho.ev env A ρ σ s _ hk g M q) (fun ov s₁ h₁ => ?_) fun _ _ x => x)
  obtain ⟨x, σ₁, rv, M₁, T₁, p, m, l₀, rfl, hp, q₁⟩ := h₁
  simp only [VRel] at rv; subst rv
  obtain ⟨kvs₀, hd₀, _, _⟩ := M₁.core.objs _ _ hp
  refine ⟨hd₀.typeIs, hd₀.mapOf.noDict, ?_⟩
  rw [backTo_cons hs]
  refine wpAny_dict_get1 (knd := PySem.strKind prog w) (M₁.core.notMods T hp rfl) (wpAny_mono (he.ev env A ρ σ₁ s₁ _ hk g M₁ q₁) (fun v s₂ h₂ => ?_) fun _ _ x => x)
  obtain ⟨y, σ₂, rv₂, M₂, T₂, m', es', x, rfl, hp', q₂⟩ := h₂
  simp only [VRel] at rv₂; obtain ⟨t, rfl⟩ := rv₂
  obtain ⟨kvs, hd, hkk, hv⟩ := M₂.core.objs _ _ hp'
  refine ⟨x, _, by simp [PySem.strKind, Value.isStrOf], hd.mapOf, ?_⟩
  rcases look_valueAt hkk hv x with ⟨h1, h2⟩ | ⟨x', v', h1, h2, h3⟩
  · rw [h2]; rw [h1] at q₂
    exact (Got.tok (x := .none) M₂ rfl q₂).trans (T₁.trans T₂)
  · rw [h2]; rw [h1] at q₂
    exact (Got.tok (x := x') M₂ h3 q₂).trans (T₁.trans T₂)
end
end Mine

namespace Mine
open PySem PyProof.Rows

section
variable {prog : Program} {w : World} {B : Shared} {vars : List Str} {S : Spec} {n : Nat} {G : Gl} {kd : Str → Option NameKind} {env : Env} {ρ : Loc} {σ σ₁ : Store} {s s₁ s' : Shared} {A : Around}

theorem VRels.drop {h : Heap} {l : List V} {vs : List Value} (r : VRels h l vs) (i : Nat) : VRels h (l.drop i) (vs.drop i) :=
  VRels.of_get (by simp [r.length]) fun j x v a b => by
    rw [List.getElem?_drop] at a b
    obtain ⟨v', h1, h2⟩ := r.get a
    rw [h1] at b; cases b; exact h2
theorem VRels.take {h : Heap} {l : List V} {vs : List Value} (r : VRels h l vs) (i : Nat) : VRels h (l.take i) (vs.take i) :=
  VRels.of_get (by simp [r.length]) fun j x v a b => by
    have hj : j < i := by
      have := (List.getElem?_eq_some_iff.mp a).1
      simp at this; omega
    rw [List.getElem?_take_of_lt hj] at a b
    obtain ⟨v', h1, h2⟩ := r.get a
    rw [h1] at b; cases b; exact h2
theorem VRels.reverse {h : Heap} : ∀ {l : List V} {vs : List Value}, VRels h l vs → VRels h l.reverse vs.reverse
  | [], _, e => by simp only [VRels] at e; subst e; exact .nil
  | _ :: _, _, e => by
    simp only [VRels] at e
    obtain ⟨v, r, rfl, a, b⟩ := e
    rw [List.reverse_cons, List.reverse_cons]
    exact (VRels.reverse b).append (.one a)

theorem SoundE.dict0 {pos : Pos} : SoundE prog w B vars S n kd (.Dict [] [] pos) .dict0 := by
  refine SoundE.of (fun _ => rfl) fun env A ρ σ s Q hk g M q => ?_
  simp only [wpE] at q
  refine wpAny_Dict_empty ?_
  obtain ⟨M', T'⟩ := M.add (o' := .di true []) (h' := s.heap.push { cls := .type "dict", data := .dict #[] }) s.toks (get_size _) (fun b o e => Heap.get?_push_of_some _ e) ⟨[], Heap.DictOf.new s.heap, rfl, .nil⟩ (hdd := fun _ => M.core.size)
  exact ⟨.ref _, _, rfl, M', T', q _ (M.core.free (get_size _)).1⟩

theorem SoundE.dict1 {k v : Expr} {a b : X} {pos : Pos} (ha : SoundE prog w B vars S n kd k a) (hb : SoundE prog w B vars S n kd v b) : SoundE prog w B vars S n kd (.Dict [some k] [v] pos) (.dict1 a b) := by
  refine SoundE.of (fun _ => rfl) fun env A ρ σ s Q hk g M q => ?_
  simp only [wpE] at q
  refine wpAny_Dict_walk (knd := PySem.strKind prog w) rfl rfl (by simp) (by simp) ?_
  obtain ⟨M₀, T₀⟩ := M.keeps (h' := s.heap.push { cls := .type "dict", data := .dict #[] }) s.toks fun b o e => Heap.get?_push_of_some _ e
  refine pairTrees_cons_walk (wpAny_mono (ha.ev env A ρ σ _ _ hk g M₀ q) (fun vk s₁ h₁ => ?_) fun _ _ x => x)
  obtain ⟨x, σ₁, rv, M₁, T₁, q₁⟩ := h₁
  refine wpAny_mono (hb.ev env A ρ σ₁ s₁ _ hk g M₁ q₁) (fun vv s₂ h₂ => pairTrees_nil_walk ?_) fun _ _ x => x
  obtain ⟨y, σ₂, rv₂, M₂, T₂, k', rfl, q₂⟩ := h₂
  simp only [VRel] at rv; obtain ⟨t, rfl⟩ := rv
  have hσ : σ s.heap.objs.size = none := (M.core.free (get_size _)).1
  have hown : ¬ Own env s.heap.objs.size := fun ho => by
    obtain ⟨o, e⟩ := M.frame.exists ho
    rw [get_size] at e; cases e
  have hd0 : (s.heap.push { cls := .type "dict", data := .dict #[] }).get? s.heap.objs.size = some { cls := .type "dict", data := .dict #[] } := Heap.get?_push_size _ rfl
  have T12 := T₁.trans T₂
  have hd2 := T12.keep _ _ hd0 (.of_none hσ) hown
  have hσ2 := T12.no _ _ hd0 hσ hown
  refine ⟨[(k', vv)], ⟨by simp [PySem.strKind, Value.isStrOf], rfl, trivial⟩, ⟨_, _, _, hd2, ⟨rfl, rfl, rfl⟩, rfl, fun e he => by simp at he, Pairs.nil, by simp⟩, fun h' hm hs => ?_⟩
  have hm' : h'.DictOf (PySem.strKind prog w) s.heap.objs.size [(k', vv)] := hm
  have hk' : ∀ b x, b ≠ s.heap.objs.size → s₂.heap.get? b = some x → h'.get? b = some x := fun b x hb e => hs.extBut b x hb e
  have hnt : ∀ o, s₂.heap.get? s.heap.objs.size = some o → ¬ tupLike o := fun o e => by rw [hd2] at e; cases e; unfold tupLike; simp
  have ht : ∀ c o, s₂.heap.get? c = some o → tupLike o → h'.get? c = some o := fun c o e ht => hk' c o (fun q => by subst q; exact hnt o e ht) e
  have M₃ := M₂.adopt (o' := .ds true [(k', y)]) (h' := h') (s₂.toks + 1) hσ2 (M.core.free (get_size _)).2 hown hnt hk' ⟨_, hm', rfl, .one (rv₂.keep ht)⟩ (hdd := fun _ => M.core.size)
  refine ⟨.ref _, _, rfl, M₃, ?_, q₂ _ hσ2⟩
  refine Step.seal (p := s.heap.objs.size) ((((T₀.trans T12).more fun a q => .inl q)).trans (Step.adopt hk')) (get_size _)

theorem SoundE.dictOf {p pos : Pos} {e : Expr} {a : X} {mg mb} (T : TopOK B G mg mb) (hkx : kd "dict" = some .globalImplicit) (h : SoundE prog w B vars S n kd e a) (hs : starred e = false := by rfl) : SoundE prog w B vars S n kd (.Call (.Name "dict" p) [e] [] pos) (.dictOf a) := by
  refine SoundE.call1 T (f := .type "dict") (by decide +kernel) hkx hs h (.inr ⟨_, rfl⟩) (fun va σ₁ Q => ∃ p m es, va = .ref p ∧ σ₁ p = some (.ds m es) ∧ es.length ≤ 1000000 ∧ fresh σ₁ (.ds true es) Q) (fun _ _ _ q => by simpa only [wpE] using q) fun env A ρ y v σ₁ s₁ Q g rv M q => ?_
  obtain ⟨p, m, es, rfl, hp, hz, q⟩ := q
  simp only [VRel] at rv; subst rv
  obtain ⟨kvs, hd, hk, hv⟩ := M.core.objs _ _ hp
  have hl := congrArg List.length hk
  simp only [List.length_map] at hl
  refine kt_call_dict (M.core.notMods T hp rfl) hd (by rw [sizeLine_eq]; omega) fun h' hm hsb => ?_
  have hkeep : ∀ b o, s₁.heap.get? b = some o → h'.get? b = some o := fun b o e => hsb.extBut b o (Nat.ne_of_lt (Heap.lt_size e)) (Heap.get?_push_of_some _ e)
  obtain ⟨M', T'⟩ := M.add (o' := .ds true es) (h' := h') s₁.toks (get_size _) hkeep ⟨kvs, hm, hk, hv.keep fun c o e _ => hkeep c o e⟩ (hdd := fun _ => M.core.size)
  exact ⟨.ref _, _, rfl, M', T', q _ (M.core.free (get_size _)).1⟩

noncomputable def partOf : V → Option (Option Int)
  | .none => some none
  | .int i => some (some i)
  | _ => none
theorem cut_part {v : V} {k d r : Nat} (h : cutAt k d v = some r) : ∃ o, partOf v = some o ∧ (match o with
    | none => ((d : Nat) : Int)
    | some i => max 0 (min (if i < 0 then i + (k : Int) else i) (k : Int))) = ((r : Nat) : Int) := by
  cases v <;> simp only [cutAt] at h <;> cases h
  · exact ⟨none, rfl, rfl⟩
  · refine ⟨some _, rfl, ?_⟩
    simp only
    split <;> split <;> omega
theorem cut_bounds {l h : V} {i j k : Nat} (hl : cutAt k 0 l = some i) (hh : cutAt k k h = some j) : ∃ lo hi, partOf l = some lo ∧ partOf h = some hi ∧ sliceBounds lo hi none k = ((i : Int), (j : Int), 1) := by
  obtain ⟨lo, a1, a2⟩ := cut_part hl
  obtain ⟨hi, b1, b2⟩ := cut_part hh
  refine ⟨lo, hi, a1, b1, ?_⟩
  unfold sliceBounds
  simp only [Option.getD_none, Int.one_pos, gt_iff_lt, if_true]
  refine Prod.ext ?_ (Prod.ext ?_ rfl)
  · cases lo <;> simpa using a2
  · cases hi <;> simpa using b2
theorem part_is {h : Heap} {v : V} {u : Value} {o : Option Int} (e : partOf v = some o) (r : VRel h v u) : IsPart u o := by
  cases v <;> simp only [partOf] at e <;> cases e <;> simp only [VRel] at r
  · subst r; exact .none
  · obtain ⟨t, rfl⟩ := r; exact .int _ t

/-- an end of a cut, or none -/
inductive SoundP (prog : Program) (w : World) (B : Shared) (vars : List Str) (S : Spec) (n : Nat) (kd : Str → Option NameKind) : Option Expr → X → Prop
  | none : SoundP prog w B vars S n kd none (.cst .none)
  | some {e : Expr} {a : X} : SoundE prog w B vars S n kd e a → SoundP prog w B vars S n kd (some e) a
theorem SoundP.ev {o : Option Expr} {a : X} (h : SoundP prog w B vars S n kd o a) {env : Env} {A ρ σ s Q} (hk : env.kindOf = kd) (g : Good A n) (M : Sim prog w B vars env ρ σ s) (q : wpE S a ρ σ Q) :
    wpAny (model prog w) A (evalPart o env) (Got prog w B vars env ρ σ s Q) (fun _ _ => False) s := by
  cases h with
  | none => simp only [wpE] at q; exact wpAny_pure (a := Value.none) (Got.here (x := .none) rfl M q)
  | some h => exact h.ev env A ρ σ s Q hk g M q

theorem SoundE.slc {e : Expr} {lo hi : Option Expr} {a b c : X} {p pos : Pos} (ha : SoundE prog w B vars S n kd e a) (hb : SoundP prog w B vars S n kd lo b) (hc : SoundP prog w B vars S n kd hi c) : SoundE prog w B vars S n kd (.Subscript e (.Slice lo hi none p) pos) (.slc a b c) := by
  refine SoundE.of (fun _ => rfl) fun env A ρ σ s Q hk g M q => ?_
  simp only [wpE] at q
  refine Subscript_ (wpAny_mono (ha.ev env A ρ σ s _ hk g M q) (fun va s₁ h₁ => ?_) fun _ _ x => x)
  obtain ⟨x, σ₁, rv, M₁, T₁, q₁⟩ := h₁
  refine wpAny_Slice (wpAny_mono (hb.ev hk g M₁ q₁) (fun vl s₂ h₂ => ?_) fun _ _ x => x)
  obtain ⟨y, σ₂, rv₂, M₂, T₂, q₂⟩ := h₂
  refine wpAny_mono (hc.ev hk g M₂ q₂) (fun vh s₃ h₃ => wpAny_pure ?_) fun _ _ x => x
  obtain ⟨z, σ₃, rv₃, M₃, T₃, p', m, l, i, j, rfl, hp, hz, hi, hj, q₃⟩ := h₃
  simp only [VRel] at rv; subst rv
  obtain ⟨M₄, T₄⟩ := M₃.keeps (h' := s₃.heap.push { cls := .type "slice", data := .fields #[vl, vh, .none] }) s₃.toks fun b o e => Heap.get?_push_of_some _ e
  obtain ⟨vs, ⟨hl, _⟩, hsz, rs⟩ := M₄.core.objs _ _ hp
  have hlen := rs.length
  simp only [Array.length_toList] at hlen
  obtain ⟨lo', hi', e1, e2, e3⟩ := cut_bounds hi hj
  refine tail_any' hl.typeIs slot_list_getitem.lookup (wpAny_getItem_list_slice hl (Heap.IsSliceOf.new _ _ _ _) (part_is e1 (rv₂.step M₂ T₃)) (part_is e2 rv₃) .none (by simp) ?_ (by rw [sizeLine_eq]; omega))
  rw [PySem.W.kmk_pick_nat vs (by rw [hlen]; exact e3)]
  exact (alloc_list (tk := s₃.toks) (vs := (vs.toList.drop i).take (j - i)) M₄ ((rs.drop i).take (j - i)) (by simp; omega) q₃ (get_size _) (fun b o e => Heap.get?_push_of_some _ e) ⟨0, Heap.get?_push_size _ rfl⟩).trans (((T₁.trans T₂).trans T₃).trans T₄)

theorem SoundE.rev {e : Expr} {a : X} {k : Nat} {p1 p2 p pos : Pos} (ha : SoundE prog w B vars S n kd e a) : SoundE prog w B vars S n kd (.Subscript e (.Slice none none (some (.UnaryOp .USub (.Constant (.int 1) k p1) p2)) p) pos) (.rev a) := by
  refine SoundE.of (fun _ => rfl) fun env A ρ σ s Q hk g M q => ?_
  simp only [wpE] at q
  refine Subscript_ (wpAny_mono (ha.ev env A ρ σ s _ hk g M q) (fun va s₁ h₁ => ?_) fun _ _ x => x)
  obtain ⟨x, σ₁, rv, M₁, T₁, p', m, l, rfl, hp, hz, q₃⟩ := h₁
  simp only [VRel] at rv; subst rv
  refine wpAny_Slice (wpAny_pure (wpAny_pure ?_))
  refine wpAny_mono ((SoundE.cNeg (prog := prog) (w := w) (B := B) (vars := vars) (S := S) (n := n) (kd := kd) (i := 1) (k := k) (p := p1) (pos := p2)).ev env A ρ σ₁ s₁ (fun v σ => v = .int (-1) ∧ σ = σ₁) hk g M₁ (by simp [wpE])) (fun vh s₃ h₃ => ?_) fun _ _ x => x
  obtain ⟨z, σ₃, rv₃, M₃, T₃, rfl, rfl⟩ := h₃
  obtain ⟨M₄, T₄⟩ := M₃.keeps (h' := s₃.heap.push { cls := .type "slice", data := .fields #[.none, .none, vh] }) s₃.toks fun b o e => Heap.get?_push_of_some _ e
  obtain ⟨vs, ⟨hl, _⟩, hsz, rs⟩ := M₄.core.objs _ _ hp
  have hlen := rs.length
  simp only [Array.length_toList] at hlen
  refine tail_any' hl.typeIs slot_list_getitem.lookup (wpAny_getItem_list_slice hl (Heap.IsSliceOf.new _ _ _ _) .none .none (part_is rfl rv₃) (by simp) ?_ (by rw [sizeLine_eq]; omega))
  rw [PySem.W.krv_pick vs]
  exact (alloc_list (tk := s₃.toks) (vs := vs.toList.reverse) M₄ rs.reverse (by simp; omega) q₃ (get_size _) (fun b o e => Heap.get?_push_of_some _ e) ⟨0, Heap.get?_push_size _ rfl⟩).trans ((T₁.trans T₃).trans T₄)
end
end Mine

namespace Mine
open PySem PyProof.Rows

section
variable {prog : Program} {w : World} {B : Shared} {vars : List Str} {S : Spec} {n : Nat} {G : Gl} {kd : Str → Option NameKind} {env : Env} {ρ ρ' : Loc} {σ σ₁ : Store} {s s₁ s' : Shared} {A : Around}

theorem Sim.move (M : Sim prog w B vars env ρ σ s) (W : Addr → Prop) {h' : Heap} (tk : Nat) (hk : ∀ b o, ¬ W b → s.heap.get? b = some o → h'.get? b = some o)
    (hW : ∀ a, W a → σ a = none ∧ B.heap.get? a = none ∧ ¬ Own env a ∧ ∀ o, s.heap.get? a = some o → ¬ tupLike o) : Sim prog w B vars env ρ σ { s with heap := h', toks := tk } :=
  ⟨M.core.move W tk hk fun a o q e => ⟨(hW a q).1, (hW a q).2.1, (hW a q).2.2.2 o e⟩,
    M.frame.kept (fun a o ha e => hk a o (fun q => (hW a q).2.2.1 ha) e) (fun a o e ht => hk a o (fun q => (hW a q).2.2.2 o e ht) e) fun a ha => (M.frame.own a ha).1⟩

/-- an iterator over so many items: fp is what it leans on, wr what it turns -/
structure Iter (prog : Program) (w : World) (B : Shared) (I : Addr) (fp wr : List Addr) (items : List V) (ok : Store → Prop) (St : Nat → Heap → Prop) : Prop where
  sub : ∀ b ∈ wr, b ∈ fp
  frame : ∀ k h h', St k h → (∀ b ∈ fp, ∀ o, h.get? b = some o → h'.get? b = some o) → St k h'
  live : ∀ k h b, St k h → b ∈ fp → ∃ o, h.get? b = some o
  loose : ∀ k h b o, St k h → b ∈ wr → h.get? b = some o → ¬ tupLike o
  next : ∀ (A : Around) (k : Nat) (x : V) (σ : Store) (s : Shared) (Q : Option Value → Shared → Prop) (E : Value → Shared → Prop), A.handled = none → items[k]? = some x → St k s.heap → Core prog w B σ s → ok σ →
    (∀ v h' tk, VRel h' x v → St (k + 1) h' → (∀ b o, b ∉ wr → s.heap.get? b = some o → h'.get? b = some o) → Q (some v) { s with heap := h', toks := tk }) → wpAny (model prog w) A (pyNext (.ref I)) Q E s
  done : ∀ (A : Around) (σ : Store) (s : Shared) (Q : Option Value → Shared → Prop) (E : Value → Shared → Prop), A.handled = none → St items.length s.heap → Core prog w B σ s → ok σ →
    (∀ h' tk, (∀ b o, b ∉ wr → s.heap.get? b = some o → h'.get? b = some o) → Q none { s with heap := h', toks := tk }) → wpAny (model prog w) A (pyNext (.ref I)) Q E s
  self : ∀ (A : Around) (k : Nat) (s : Shared) (Q : Value → Shared → Prop) (E : Value → Shared → Prop), A.handled = none → St k s.heap → Q (.ref I) s → wpAny (model prog w) A (pyIter (.ref I)) Q E s
  owned : ∀ (A : Around) (k : Nat) (v : Value) (t : Expr) (s : Shared) (Q : Unit → Shared → Prop) (E : Value → Shared → Prop), St (k + 1) s.heap →
    (∀ h' tk, St (k + 1) h' → (∀ b o, b ∉ wr → s.heap.get? b = some o → h'.get? b = some o) → Q () { s with heap := h', toks := tk }) → wpAny (model prog w) A (letOwnedTupleGo t (.ref I) v) Q E s

theorem owned_plain {M : Model} {A : Around} {E : Value → Shared → Prop} {s : Shared} {t : Expr} {I : Addr} {o : Obj} {T : String} {v : Value} {Q : Unit → Shared → Prop} (ho : s.heap.get? I = some o) (hc : o.cls = .type T)
    (hT : (["enumerate", "zip", "dict_itemiterator", "dict_reverseitemiterator", "odict_iterator", "itertools.zip_longest", "itertools.pairwise"] : List String).contains T = false) (q : Q () s) : wpAny M A (letOwnedTupleGo t (.ref I) v) Q E s := by
  have key : wpAny M A (do
    let (.ref r, .ref a) := ((Value.ref I, v) : Value × Value) | return
    let o ← load r
    match o.cls, o.data with
    | .type n, .fields vs =>
      if (["enumerate", "zip", "dict_itemiterator", "dict_reverseitemiterator", "odict_iterator", "itertools.zip_longest", "itertools.pairwise"] : List String).contains n && vs[0]? == some (rawInt a) then
        rule "for.unpacks-the-owned-tuple"
        updateField r 0 .none
    | _, _ => pure () : Sem Unit) Q E s := by
    cases v <;> try exact wpAny_pure q
    refine wpAny_bind (wpAny_load ho ?_)
    rw [hc]
    cases o.data <;> first | exact wpAny_pure q | skip
    simp only [hT, Bool.false_and, Bool.false_eq_true, if_false]
    exact wpAny_pure q
  cases t <;> first | exact key | exact wpAny_pure q

theorem Walks.iter {I : Addr} {fp wr : List Addr} {items : List V} {P : Nat → Value → Prop} {St : Nat → Heap → Prop} {T : String}
    (W : ∀ A' : Around, A'.handled = none → Walks prog w A' I fp wr items.length P St) (hI : I ∈ fp) (hw : wr = [I])
    (hP : ∀ k x v h, items[k]? = some x → P k v → VRel h x v) (hT : (["enumerate", "zip", "dict_itemiterator", "dict_reverseitemiterator", "odict_iterator", "itertools.zip_longest", "itertools.pairwise"] : List String).contains T = false)
    (hS : ∀ k h, St k h → ∃ o, h.get? I = some o ∧ o.cls = .type T) (hL : ∀ k h b, St k h → b ∈ fp → ∃ o, h.get? b = some o) (ht : T ≠ "tuple" ∧ T ≠ "range") : Iter prog w B I fp wr items (fun _ => True) St where
  sub b hb := by rw [hw] at hb; simp at hb; rw [hb]; exact hI
  frame := (W { } rfl).frame
  live := hL
  loose k h b o st hb e := by
    rw [hw] at hb; simp at hb; subst hb
    obtain ⟨o', e', hc⟩ := hS k h st
    rw [e'] at e; cases e
    unfold tupLike; simp [hc, ht.1, ht.2]
  next A k x σ s Q E hA hx st C _ q := by
    have hk : k < items.length := (List.getElem?_eq_some_iff.mp hx).1
    exact (W A hA).item k s Q E hk st fun v h' tk hv st' hk' => q v h' tk (hP k x v h' hx hv) st' hk'
  done A σ s Q E hA st C _ q := (W A hA).done s Q E st q
  self A k s Q E hA st q := (W A hA).self k s Q E st q
  owned A k v t s Q E st q := by
    obtain ⟨o, ho, hc⟩ := hS _ _ st
    exact owned_plain ho hc hT (q s.heap s.toks st fun _ _ _ e => e)

theorem Iter.list {a I : Addr} {l : List V} (hne : a ≠ I) : Iter prog w B I [I] [I] l (fun σ' => ∃ m', σ' a = some (.list m' l)) (fun k h => h.IsListIter I a k) where
  sub b hb := hb
  frame k h h' st hk := st.at fun o e => hk I (by simp) o e
  live k h b st hb := by simp at hb; subst hb; obtain ⟨o, ho, _⟩ := st; exact ⟨o, ho⟩
  loose k h b o st hb e := by
    simp at hb; subst hb
    obtain ⟨o', e', hc, _⟩ := st
    rw [e'] at e; cases e
    unfold tupLike; simp [hc]
  next A k x σ s Q E hA hx st C hok q := by
    obtain ⟨m', hm⟩ := hok
    obtain ⟨vs, ⟨hl, _⟩, _, rs⟩ := C.objs _ _ hm
    obtain ⟨v, hv, rv⟩ := rs.get hx
    refine wpAny_pyNext_list_item st hl (x := v) (by simpa using hv) fun h' st' hs => ?_
    refine q v h' s.toks (rv.keep fun c o e ht => hs.extBut c o (fun q => ?_) e) st' fun b o hb e => hs.extBut b o (by simpa using hb) e
    subst q
    obtain ⟨o', e', hc, _⟩ := st
    rw [e'] at e; cases e
    revert ht; unfold tupLike; simp [hc]
  done A σ s Q E hA st C hok q := by
    obtain ⟨m', hm⟩ := hok
    obtain ⟨vs, ⟨hl, _⟩, _, rs⟩ := C.objs _ _ hm
    have := rs.length
    exact wpAny_pyNext_list_end hA st hl (by simp at this; simp; omega) fun h' hs => q h' s.toks fun b o hb e => hs b o (by simpa using hb) e
  self A k s Q E hA st q := wpAny_pyIter_listiter st q
  owned A k v t s Q E st q := by
    obtain ⟨o, ho, hc, _⟩ := id st
    exact owned_plain ho hc (by decide) (q s.heap s.toks st fun _ _ _ e => e)

/-- what a loop goes over -/
theorem src_iter {x : V} {v : Value} {items : List V} {ok : Store → Prop} {Q : Value → Shared → Prop} {E : Value → Shared → Prop} (M : Core prog w B σ s) (rv : VRel s.heap x v) (hs : Src σ x items ok)
    (q : ∀ I St h' tk, s.heap.get? I = none → Iter prog w B I [I] [I] items ok St → St 0 h' → (∀ b o, s.heap.get? b = some o → h'.get? b = some o) → (∃ o, h'.get? I = some o) → ok σ → Q (.ref I) { s with heap := h', toks := tk }) : wpAny (model prog w) A (pyIter v) Q E s := by
  cases hs with
  | @list a m l hp =>
    simp only [VRel] at rv; subst rv
    obtain ⟨vs, ⟨hl, _⟩, _, rs⟩ := M.objs _ _ hp
    have hne : a ≠ s.heap.objs.size := by obtain ⟨o, ho, _⟩ := hl; exact Nat.ne_of_lt (Heap.lt_size ho)
    exact wpAny_pyIter_list hl (q _ _ _ s.toks (get_size _) (Iter.list hne) ⟨_, Heap.get?_push_size _ rfl, rfl, rfl⟩ (fun b o e => Heap.get?_push_of_some _ e) ⟨_, Heap.get?_push_size _ rfl⟩ ⟨m, hp⟩)
  | @rng a b hb =>
    simp only [VRel] at rv
    obtain ⟨r, t, u, v', rfl, hr⟩ := rv
    have hsm := rng_small hb
    refine wpAny_pyIter_range hr hsm.1 (q _ (fun i h => IsRangeIter h s.heap.objs.size (a + (i : Nat) * 1) (((b - a).toNat : Int) - (i : Nat)) 1) _ s.toks (get_size _) ?_ ?_ (fun b o e => Heap.get?_push_of_some _ e) ⟨_, Heap.get?_push_size _ rfl⟩ trivial)
    · refine Walks.iter (T := "range_iterator") (P := fun i v => ∃ t, v = .int (a + i * 1) t) (fun A' hA => by rw [rngItems_length]; exact Walks.range hA _ a 1 _) (by simp) rfl (fun k x v h hx hP => ?_) (by decide) (fun k h st => ⟨_, st, rfl⟩) (fun k h b st hb => by simp at hb; subst hb; exact ⟨_, st⟩) (by decide)
      obtain ⟨t, rfl⟩ := hP
      have hi := (List.getElem?_eq_some_iff.mp hx).1
      rw [rngItems_length] at hi
      rw [rngItems_get _ _ hi] at hx; cases hx
      simp [VRel]
    · show IsRangeIter _ _ _ _ _
      rw [hsm.2]
      simpa using Heap.get?_push_size _ rfl
  | @str x =>
    simp only [VRel] at rv
    obtain ⟨t, rfl⟩ := rv
    have hl : (strItems x).length = x.cps.size := by simp [strItems]
    have hP : ∀ k y v h, (strItems x)[k]? = some y → SignAt x k v → VRel h y v := fun k y v h hy hv => by
      obtain ⟨c, u, hc, rfl⟩ := hv
      simp only [strItems, List.getElem?_map, Array.getElem?_toList, hc, Option.map_some, Option.some.injEq] at hy
      subst hy; simp [VRel]
    cases ha : x.cps.all (· < 128)
    · refine wpAny_pyIter_wide ha (q _ (fun i h => h.IsStrIter s.heap.objs.size "str_iterator" x t i) _ s.toks (get_size _) ?_ ⟨_, Heap.get?_push_size _ rfl, rfl, rfl⟩ (fun b o e => Heap.get?_push_of_some _ e) ⟨_, Heap.get?_push_size _ rfl⟩ trivial)
      exact Walks.iter (T := "str_iterator") (P := SignAt x) (fun A' hA => by rw [hl]; exact Walks.strWide hA _ x t) (by simp) rfl hP (by decide) (fun k h st => let ⟨o, ho, hc, _⟩ := st; ⟨o, ho, hc⟩) (fun k h b st hb => by simp at hb; subst hb; obtain ⟨o, ho, _⟩ := st; exact ⟨o, ho⟩) (by decide)
    · refine wpAny_pyIter_ascii ha (q _ (fun i h => h.IsStrIter s.heap.objs.size "str_ascii_iterator" x t i) _ s.toks (get_size _) ?_ ⟨_, Heap.get?_push_size _ rfl, rfl, rfl⟩ (fun b o e => Heap.get?_push_of_some _ e) ⟨_, Heap.get?_push_size _ rfl⟩ trivial)
      exact Walks.iter (T := "str_ascii_iterator") (P := SignAt x) (fun A' hA => by rw [hl]; exact Walks.strAscii hA _ x t) (by simp) rfl hP (by decide) (fun k h st => let ⟨o, ho, hc, _⟩ := st; ⟨o, ho, hc⟩) (fun k h b st hb => by simp at hb; subst hb; obtain ⟨o, ho, _⟩ := st; exact ⟨o, ho⟩) (by decide)

/-- a name is stored -/
theorem store_sound {i : Nat} {x : Str} {y : V} {v : Value} {Q : Unit → Shared → Prop} {E : Value → Shared → Prop} (hn : vars.Nodup) (M : Sim prog w B vars env ρ σ s) (hx : vars[i]? = some x) (hk : env.kindOf x = some .local ∨ env.kindOf x = some .cell) (rv : VRel s.heap y v)
    (q : ∀ h' tk, Sim prog w B vars env (ρ.set i y) σ { s with heap := h', toks := tk } → (∀ b o, ¬ Own env b → s.heap.get? b = some o → h'.get? b = some o) → Q () { s with heap := h', toks := tk }) : wpAny (model prog w) A (storeName env x v) Q E s := by
  have uniq : ∀ (j : Nat) z, vars[j]? = some z → j ≠ i → z ≠ x := fun j z hz hj e => by
    subst e
    have h1 := (List.getElem?_eq_some_iff.mp hz)
    have h2 := (List.getElem?_eq_some_iff.mp hx)
    obtain ⟨a1, b1⟩ := h1
    obtain ⟨a2, b2⟩ := h2
    exact hj ((List.getElem_inj hn).mp (b1.trans b2.symm))
  rcases hk with hk | hk
  · obtain ⟨m, hns, hm⟩ := M.frame.ns
    refine wpAny_storeName_local hk hns (fun h' hn' hs => ?_) (by rw [M.frame.kind]; rfl)
    have hkeep : ∀ b o, b ≠ env.locals → s.heap.get? b = some o → h'.get? b = some o := fun b o hb e => hs.extBut b o hb e
    have ht : ∀ a o, s.heap.get? a = some o → tupLike o → h'.get? a = some o := fun a o e ht => hkeep a o (fun z => by subst z; exact M.frame.nsObj o e ht) e
    have hnt : ∀ o, h'.get? env.locals = some o → ¬ tupLike o := fun o e => by
      obtain ⟨o0, es, ep, ho, hd, _⟩ := hn'
      rw [ho] at e; cases e
      exact fun z => z.2.1 _ _ hd
    refine q h' (s.toks + 1) ⟨⟨M.core.heapEq _ _, fun b o e => hkeep b o (fun z => by rw [z, (M.frame.own _ (.inl rfl)).2] at e; cases e) (M.core.base b o e), fun a o e => ?_, M.core.new, M.core.dic, M.core.low⟩, ?_⟩ fun b o hb e => hkeep b o (fun z => hb (.inl z)) e
    · exact (M.core.objs a o e).keep (fun b hb => hkeep a b (fun z => by rw [z, (M.frame.own _ (.inl rfl)).1] at e; cases e) hb) ht
    · refine ⟨⟨_, hn', fun j z u hz hu hkz => ?_⟩, hnt, fun j z u hz hu hkz => ?_, fun z c hc => ?_, M.frame.inj, M.frame.has, M.frame.own, M.frame.kind, M.frame.glob, M.frame.bltn⟩
      · by_cases hj : j = i
        · subst hj
          simp only [Loc.set, if_true] at hu; cases hu
          rw [hx] at hz; cases hz
          exact ⟨v, by simp, rv.keep ht⟩
        · simp only [Loc.set, if_neg hj] at hu
          obtain ⟨u', h1, h2⟩ := hm j z u hz hu hkz
          exact ⟨u', by rw [if_neg (uniq j z hz hj)]; exact h1, h2.keep ht⟩
      · have hj : j ≠ i := fun e => by subst e; rw [hx] at hz; cases hz; rw [hk] at hkz; rcases hkz with h | h <;> cases h
        simp only [Loc.set, if_neg hj] at hu
        obtain ⟨c, u', h1, h2, h3⟩ := M.frame.cell j z u hz hu hkz
        exact ⟨c, u', h1, h2.sameBut hs (M.frame.cells z c h1).2.1, h3.keep ht⟩
      · obtain ⟨⟨u, h1⟩, h2, h3⟩ := M.frame.cells z c hc
        refine ⟨⟨u, h1.sameBut hs h2⟩, h2, fun o e => ?_⟩
        obtain ⟨o', ho', hd'⟩ := h1
        rw [hkeep c o' h2 ho'] at e; cases e; exact h3 _ ho'
  · obtain ⟨c, hc⟩ := M.frame.has x (.inl hk)
    obtain ⟨⟨u₀, hu₀⟩, hcl, hct⟩ := M.frame.cells x c hc
    refine wpAny_storeName_cell M.frame.kind hk hc hu₀ fun h' hn' hs => ?_
    have hkeep : ∀ b o, b ≠ c → s.heap.get? b = some o → h'.get? b = some o := fun b o hb e => hs.extBut b o hb e
    have ht : ∀ a o, s.heap.get? a = some o → tupLike o → h'.get? a = some o := fun a o e ht => hkeep a o (fun z => by subst z; exact hct o e ht) e
    have hnt : ∀ o, h'.get? c = some o → ¬ tupLike o := fun o e => by
      obtain ⟨o0, ho, hd⟩ := hn'
      rw [ho] at e; cases e
      exact fun z => z.2.2 _ hd
    refine q h' s.toks ⟨⟨M.core.heapEq _ _, fun b o e => hkeep b o (fun z => by rw [z, (M.frame.own c (.inr ⟨x, hc⟩)).2] at e; cases e) (M.core.base b o e), fun a o e => ?_, M.core.new, M.core.dic, M.core.low⟩, ?_⟩ fun b o hb e => hkeep b o (fun z => hb (.inr ⟨x, z ▸ hc⟩)) e
    · exact (M.core.objs a o e).keep (fun b hb => hkeep a b (fun z => by rw [z, (M.frame.own c (.inr ⟨x, hc⟩)).1] at e; cases e) hb) ht
    · refine ⟨?_, fun o e => ?_, fun j z u hz hu hkz => ?_, fun z d hd => ?_, M.frame.inj, M.frame.has, M.frame.own, M.frame.kind, M.frame.glob, M.frame.bltn⟩
      · obtain ⟨m, hns, hm⟩ := M.frame.ns
        refine ⟨m, hns.sameBut hs (Ne.symm hcl), fun j z u hz hu hkz => ?_⟩
        have hj : j ≠ i := fun e => by subst e; rw [hx] at hz; cases hz; rw [hk] at hkz; cases hkz
        simp only [Loc.set, if_neg hj] at hu
        obtain ⟨u', h1, h2⟩ := hm j z u hz hu hkz
        exact ⟨u', h1, h2.keep ht⟩
      · obtain ⟨m0, ⟨o0, es, ep, ho, hd, _⟩, _⟩ := M.frame.ns
        rw [hkeep _ _ (Ne.symm hcl) ho] at e; cases e; exact M.frame.nsObj _ ho
      · by_cases hj : j = i
        · subst hj
          simp only [Loc.set, if_true] at hu; cases hu
          rw [hx] at hz; cases hz
          exact ⟨c, v, hc, hn', rv.keep ht⟩
        · simp only [Loc.set, if_neg hj] at hu
          obtain ⟨d, u', h1, h2, h3⟩ := M.frame.cell j z u hz hu hkz
          refine ⟨d, u', h1, h2.sameBut hs fun e => ?_, h3.keep ht⟩
          subst e
          exact uniq j z hz hj (M.frame.inj _ _ _ h1 hc)
      · by_cases hdc : d = c
        · subst hdc; exact ⟨⟨_, hn'⟩, hcl, hnt⟩
        · obtain ⟨⟨u, h1⟩, h2, h3⟩ := M.frame.cells z d hd
          refine ⟨⟨u, h1.sameBut hs hdc⟩, h2, fun o e => ?_⟩
          obtain ⟨o', ho', hd'⟩ := h1
          rw [hkeep d o' hdc ho'] at e; cases e; exact h3 _ ho'
end
end Mine

namespace Mine
open PySem PyProof.Rows

section
variable (prog : Program) (w : World) (B : Shared) (vars : List Str) (S : Spec) (n : Nat)

/-- a target of an assignment -/
noncomputable def SoundT (kd : Str → Option NameKind) (t : Expr) (tg : Tgt) : Prop :=
  ∀ (env : Env) A ρ ρ' σ s y v (Q : Unit → Shared → Prop) (E : Value → Shared → Prop), env.kindOf = kd → A.handled = none → Sim prog w B vars env ρ σ s → VRel s.heap y v → bindT tg y ρ = some ρ' →
    (∀ h' tk, Sim prog w B vars env ρ' σ { s with heap := h', toks := tk } → (∀ b o, ¬ Own env b → s.heap.get? b = some o → h'.get? b = some o) → Q () { s with heap := h', toks := tk }) → wpAny (model prog w) A (assign t env v) Q E s

noncomputable def FRel (h : Heap) : Fl → Flow → Prop
  | .next, f => f = .next
  | .ret x, f => ∃ v, f = .ret v ∧ VRel h x v

noncomputable def GotF (env : Env) (σ : Store) (s : Shared) (Q : FPost) (f : Flow) (s' : Shared) : Prop :=
  ∃ fl ρ' σ', FRel s'.heap fl f ∧ Sim prog w B vars env ρ' σ' s' ∧ Step (Own env) σ s σ' s' ∧ Q fl ρ' σ'

noncomputable def SoundS (kd : Str → Option NameKind) (st : Stmt) (x : Mine.S) : Prop :=
  ∀ (env : Env) A ρ σ s Q, env.kindOf = kd → Good A n → Sim prog w B vars env ρ σ s → wpS S x ρ σ Q → wpAny (model prog w) A (exec st env) (GotF prog w B vars env σ s Q) (fun _ _ => False) s
noncomputable def SoundSs (kd : Str → Option NameKind) (sts : List Stmt) (xs : List Mine.S) : Prop :=
  ∀ (env : Env) A ρ σ s Q, env.kindOf = kd → Good A n → Sim prog w B vars env ρ σ s → wpSs S xs ρ σ Q → wpAny (model prog w) A (execs sts env) (GotF prog w B vars env σ s Q) (fun _ _ => False) s
end

section
variable {prog : Program} {w : World} {B : Shared} {vars : List Str} {S : Spec} {n : Nat} {G : Gl} {kd : Str → Option NameKind} {env : Env} {ρ ρ' : Loc} {σ σ₁ : Store} {s s₁ s' : Shared} {A : Around}

theorem GotF.trans {Q : FPost} {f : Flow} (T : Step (Own env) σ s σ₁ s₁) (h : GotF prog w B vars env σ₁ s₁ Q f s') : GotF prog w B vars env σ s Q f s' := by
  obtain ⟨fl, ρ', σ', a, b, c, d⟩ := h; exact ⟨fl, ρ', σ', a, b, T.trans c, d⟩

theorem SoundT.one {i : Nat} {x : Str} {pos : Pos} (hn : vars.Nodup) (hx : vars[i]? = some x) (hk : kd x = some .local ∨ kd x = some .cell) : SoundT prog w B vars kd (.Name x pos) (.one i) := by
  intro env A ρ ρ' σ s y v Q E hkd _ M rv hb q
  subst hkd
  simp only [bindT] at hb; cases hb
  exact wpAny_assign_Name (store_sound hn M hx hk rv q)

/-- names in a row -/
inductive Names (vars : List Str) (kd : Str → Option NameKind) : List Expr → List Nat → Prop
  | nil : Names vars kd [] []
  | cons {i : Nat} {x : Str} {pos : Pos} {es : List Expr} {is : List Nat} : vars[i]? = some x → (kd x = some .local ∨ kd x = some .cell) → Names vars kd es is → Names vars kd (.Name x pos :: es) (i :: is)

theorem Names.length {es : List Expr} {is : List Nat} (h : Names vars kd es is) : (assignEach es env).length = is.length ∧ (assignEach es env).findIdx? (·.1) = none := by
  induction h with
  | nil => exact ⟨rfl, rfl⟩
  | cons a b c ih =>
    constructor
    · show (_ :: assignEach _ env).length = _
      simp [ih.1]
    · show ((false, _) :: assignEach _ env).findIdx? (·.1) = none
      simp [List.findIdx?_cons, ih.2]

theorem Names.sound {es : List Expr} {is : List Nat} (h : Names vars kd es is) (hn : vars.Nodup) : ∀ (env : Env) A ρ ρ' σ s ys vs (Q : Unit → Shared → Prop) (E : Value → Shared → Prop), env.kindOf = kd → Sim prog w B vars env ρ σ s → VRels s.heap ys vs → bindMany is ys ρ = some ρ' →
    (∀ h' tk, Sim prog w B vars env ρ' σ { s with heap := h', toks := tk } → (∀ b o, ¬ Own env b → s.heap.get? b = some o → h'.get? b = some o) → Q () { s with heap := h', toks := tk }) → wpAny (model prog w) A (assignInOrder ((assignEach es env).map (·.2)) vs) Q E s := by
  induction h with
  | nil =>
    intro env A ρ ρ' σ s ys vs Q E hk M rs hb q
    cases ys with
    | nil =>
      simp only [bindMany] at hb; cases hb
      exact wpAny_pure (q s.heap s.toks M fun _ _ _ e => e)
    | cons y ys => simp only [bindMany] at hb; cases hb
  | @cons i x pos es is hx hkx r ih =>
    intro env A ρ ρ' σ s ys vs Q E hk M rs hb q
    cases ys with
    | nil => simp only [bindMany] at hb; cases hb
    | cons y ys =>
      simp only [bindMany] at hb
      simp only [VRels] at rs
      obtain ⟨v, vs', rfl, ra, rb⟩ := rs
      show wpAny _ _ (do holding vs' (assign (.Name x pos) env v); assignInOrder ((assignEach es env).map (·.2)) vs') _ _ _
      refine wpAny_bind (wpAny_holding (wpAny_assign_Name (store_sound hn M hx (by rw [hk]; exact hkx) ra fun h' tk M' hk' => ?_)))
      refine ih env A (ρ.set i y) ρ' σ _ ys vs' Q E hk M' (rb.keep fun c o e ht => hk' c o (fun z => M.frame.notTup c o z e ht) e) hb fun h'' tk'' M'' hk'' => ?_
      exact q h'' tk'' M'' fun b o hb e => hk'' b o hb (hk' b o hb e)

theorem SoundT.many {es : List Expr} {is : List Nat} {k : Nat} {pos : Pos} (hn : vars.Nodup) (h : Names vars kd es is) : SoundT prog w B vars kd (.Tuple es k pos) (.many is) := by
  intro env A ρ ρ' σ s y v Q E hkd hA M rv hb q
  cases y with
  | tup l =>
    simp only [bindT] at hb
    simp only [VRel] at rv
    obtain ⟨a, vs, m, rfl, gg, z, rs⟩ := rv
    have hl : vs.size = is.length := by
      have h1 := rs.length
      simp only [Array.length_toList] at h1
      have : ∀ (is : List Nat) (l : List V) (ρ : Loc), bindMany is l ρ = some ρ' → is.length = l.length := by
        intro is
        induction is with
        | nil => intro l ρ h; cases l with | nil => rfl | cons => simp [bindMany] at h
        | cons i is ih => intro l ρ h; cases l with | nil => simp [bindMany] at h | cons y l => simp [bindMany] at h; simp [ih l _ h]
      rw [this is l ρ hb]; exact h1
    refine wpAny_assign_Tuple (items := vs) hA ⟨_, gg, rfl, m, rfl⟩ (by rw [h.length.1, hl]) h.length.2 fun h' hx => ?_
    have hkeep : ∀ b o, s.heap.get? b = some o → h'.get? b = some o := fun b o e => hx b o (fun z => by rw [z, get_size] at e; cases e) e
    obtain ⟨M', _⟩ := M.keeps (h' := h') s.toks hkeep
    exact h.sound hn env A ρ ρ' σ _ l _ Q E hkd M' (rs.keep fun c o e _ => hkeep c o e) hb fun h'' tk'' M'' hk'' => q h'' tk'' M'' fun b o hb e => hk'' b o hb (hkeep b o e)
  | _ => simp only [bindT] at hb; cases hb

theorem SoundSs.nil : SoundSs prog w B vars S n kd [] [] := fun env A ρ σ s Q _ _ M q => by
  simp only [wpSs] at q
  exact wpAny_execs_nil ⟨.next, ρ, σ, rfl, M, .refl, q⟩
theorem SoundSs.cons {st : Stmt} {sts : List Stmt} {x : Mine.S} {xs : List Mine.S} (h : SoundS prog w B vars S n kd st x) (r : SoundSs prog w B vars S n kd sts xs) : SoundSs prog w B vars S n kd (st :: sts) (x :: xs) := fun env A ρ σ s Q hk g M q => by
  simp only [wpSs] at q
  refine wpAny_execs_cons (wpAny_mono (h env A ρ σ s _ hk g M q) (fun f s₁ h₁ => ?_) fun _ _ x => x)
  obtain ⟨fl, ρ', σ', fr, M₁, T₁, q₁⟩ := h₁
  cases fl with
  | next =>
    simp only [FRel] at fr; subst fr
    exact wpAny_mono (r env A ρ' σ' s₁ Q hk g M₁ q₁) (fun _ _ h => h.trans T₁) fun _ _ x => x
  | ret v =>
    obtain ⟨u, rfl, ru⟩ := fr
    exact ⟨.ret v, ρ', σ', ⟨u, rfl, ru⟩, M₁, T₁, q₁⟩

theorem SoundS.ret {e : Expr} {a : X} {pos : Pos} (h : SoundE prog w B vars S n kd e a) : SoundS prog w B vars S n kd (.Return (some e) pos) (.ret a) := fun env A ρ σ s Q hk g M q => by
  simp only [wpS] at q
  refine wpAny_Return_some (wpAny_mono (h.ev env A ρ σ s _ hk g M q) (fun v s₁ h₁ => ?_) fun _ _ x => x)
  obtain ⟨x, σ₁, rv, M₁, T₁, q₁⟩ := h₁
  exact ⟨.ret x, ρ, σ₁, ⟨v, rfl, rv⟩, M₁, T₁, q₁⟩

theorem SoundS.ite {c : Expr} {a b : List Stmt} {x : X} {xs ys : List Mine.S} {pos : Pos} (h : SoundE prog w B vars S n kd c x) (ha : SoundSs prog w B vars S n kd a xs) (hb : SoundSs prog w B vars S n kd b ys) : SoundS prog w B vars S n kd (.If c a b pos) (.ite x xs ys) := fun env A ρ σ s Q hk g M q => by
  simp only [wpS] at q
  refine wpAny_If (wpAny_mono (h.tr env A ρ σ s _ hk g M q) (fun t s₁ h₁ => ?_) fun _ _ x => x)
  obtain ⟨σ₁, M₁, T₁, q₁⟩ := h₁
  cases t with
  | true => exact wpAny_mono (ha env A ρ σ₁ s₁ Q hk g M₁ q₁) (fun _ _ h => h.trans T₁) fun _ _ x => x
  | false => exact wpAny_mono (hb env A ρ σ₁ s₁ Q hk g M₁ q₁) (fun _ _ h => h.trans T₁) fun _ _ x => x

/-- no comprehension -/
noncomputable def notComp : Expr → Bool
  | .ListComp .. => false | .SetComp .. => false | .DictComp .. => false | _ => true
theorem swaps_no {e : Expr} {t : Option Expr} {line : Nat} {env : Env} (h : notComp e = true) : swapsWith e t line env = pure false := by
  cases e <;> first | rfl | cases h

theorem SoundS.expr {e : Expr} {a : X} {pos : Pos} (h : SoundE prog w B vars S n kd e a) (hc : notComp e = true := by rfl) : SoundS prog w B vars S n kd (.Expr e pos) (.expr a) := fun env A ρ σ s Q hk g M q => by
  simp only [wpS] at q
  refine wpAny_Expr (wpAny_mono (h.ev env A ρ σ s _ hk g M q) (fun v s₁ h₁ => ?_) fun _ _ x => x) (by unfold interactive; rw [M.frame.kind]; rfl) (swaps_no hc)
  obtain ⟨x, σ₁, rv, M₁, T₁, q₁⟩ := h₁
  cases x <;> first | exact q₁.elim | skip
  · simp only [VRel] at rv; subst rv; exact ⟨.next, ρ, σ₁, rfl, M₁, T₁, q₁⟩
  · simp only [VRel] at rv; subst rv; exact ⟨.next, ρ, σ₁, rfl, M₁, T₁, q₁⟩

theorem GotF.stored {Q : FPost} {h' : Heap} {tk : Nat} (M : Sim prog w B vars env ρ' σ { s with heap := h', toks := tk }) (hk : ∀ b o, ¬ Own env b → s.heap.get? b = some o → h'.get? b = some o) (q : Q .next ρ' σ) : GotF prog w B vars env σ s Q .next { s with heap := h', toks := tk } :=
  ⟨.next, ρ', σ, rfl, M, Step.move hk, q⟩

theorem SoundS.asg {x : Str} {i : Nat} {e : Expr} {a : X} {p pos : Pos} (hn : vars.Nodup) (hx : vars[i]? = some x) (hkx : kd x = some .local ∨ kd x = some .cell) (h : SoundE prog w B vars S n kd e a) (hc : notComp e = true := by rfl) :
    SoundS prog w B vars S n kd (.Assign [.Name x p] e pos) (.asg (.one i) a) := fun env A ρ σ s Q hk g M q => by
  simp only [wpS, bindT] at q
  refine wpAny_Assign_Name (wpAny_mono (h.ev env A ρ σ s _ hk g M q) (fun v s₁ h₁ => ?_) fun _ _ x => x) (swaps_no hc)
  obtain ⟨y, σ₁, rv, M₁, T₁, ρ', hρ, q₁⟩ := h₁
  cases hρ
  refine store_sound hn M₁ hx (by rw [hk]; exact hkx) rv fun h' tk M' hk' => ?_
  exact (GotF.stored M' hk' q₁).trans T₁

/-- no tuple display -/
noncomputable def notTupE : Expr → Bool
  | .Tuple .. => false | _ => true
theorem SoundS.asgT {es : List Expr} {is : List Nat} {k : Nat} {e : Expr} {a : X} {p pos : Pos} (hn : vars.Nodup) (hx : Names vars kd es is) (h : SoundE prog w B vars S n kd e a) (hc : notComp e = true := by rfl) (ht : notTupE e = true := by rfl) :
    SoundS prog w B vars S n kd (.Assign [.Tuple es k p] e pos) (.asg (.many is) a) := fun env A ρ σ s Q hk g M q => by
  simp only [wpS] at q
  refine Assign_Tuple (wpAny_mono (h.ev env A ρ σ s _ hk g M q) (fun v s₁ h₁ => ?_) fun _ _ x => x) (show swapsWith e (some (.Tuple es k p)) pos.line env = pure false from swaps_no hc) ?_
  · obtain ⟨y, σ₁, rv, M₁, T₁, ρ', hρ, q₁⟩ := h₁
    refine (SoundT.many hn hx) env A ρ ρ' σ₁ s₁ y v _ _ hk g.hd M₁ rv hρ fun h' tk M' hk' => ?_
    exact (GotF.stored M' hk' q₁).trans T₁
  · unfold swappedStores
    cases e <;> first | rfl | cases ht

theorem put_stored {K : Type} [DecidableEq K] {h : Heap} {es : List (K × V)} {kvs : List (K × Value)} {k : K} {y : V} {v : Value} (hk : kvs.map (·.1) = es.map (·.1)) (hv : VRels h (es.map (·.2)) (kvs.map (·.2))) (rv : VRel h y v) :
    (stored kvs k v).map (·.1) = (put es k y).map (·.1) ∧ VRels h ((put es k y).map (·.2)) ((stored kvs k v).map (·.2)) := by
  have ha : kvs.any (fun kv => kv.1 = k) = es.any (fun e => e.1 = k) := by
    have e1 : kvs.any (fun kv => kv.1 = k) = (kvs.map (·.1)).any (fun x => x = k) := by rw [List.any_map]; rfl
    have e2 : es.any (fun kv => kv.1 = k) = (es.map (·.1)).any (fun x => x = k) := by rw [List.any_map]; rfl
    rw [e1, e2, hk]
  unfold stored put
  rw [ha]
  split
  · have key : ∀ (es : List (K × V)) (kvs : List (K × Value)), kvs.map (·.1) = es.map (·.1) → VRels h (es.map (·.2)) (kvs.map (·.2)) →
        (kvs.map fun kv => if kv.1 = k then (kv.1, v) else kv).map (·.1) = (es.map fun e => if e.1 = k then (e.1, y) else e).map (·.1) ∧
        VRels h ((es.map fun e => if e.1 = k then (e.1, y) else e).map (·.2)) ((kvs.map fun kv => if kv.1 = k then (kv.1, v) else kv).map (·.2)) := by
      intro es
      induction es with
      | nil => intro kvs hk hv; cases kvs with | nil => exact ⟨rfl, .nil⟩ | cons => simp at hk
      | cons e es ih =>
        intro kvs hk hv
        cases kvs with
        | nil => simp at hk
        | cons kv kvs =>
          simp only [List.map_cons, List.cons.injEq] at hk
          simp only [List.map_cons, VRels, List.cons.injEq] at hv
          obtain ⟨u, r, ⟨rfl, rfl⟩, ra, rb⟩ := hv
          obtain ⟨h1, h2⟩ := ih kvs hk.2 rb
          simp only [List.map_cons]
          refine ⟨?_, ?_⟩
          · rw [h1]
            congr 1
            have hk1 := hk.1
            by_cases hc : e.1 = k
            · rw [if_pos hc, if_pos (hk1.trans hc)]; exact hk1
            · rw [if_neg hc, if_neg (fun z => hc (hk1.symm.trans z))]; exact hk1
          · rw [hk.1]
            by_cases hc : e.1 = k
            · simp only [hc, if_true]; exact .cons rv h2
            · simp only [hc, if_false]; exact .cons ra h2
    exact key es kvs hk hv
  · refine ⟨by simp [hk], ?_⟩
    rw [List.map_append, List.map_append]
    exact hv.append (.one rv)

theorem VRels.set {h : Heap} {y : V} {v : Value} (rv : VRel h y v) : ∀ {l : List V} {vs : List Value} {k : Nat}, VRels h l vs → VRels h (l.set k y) (vs.set k v)
  | [], _, _, e => by simp only [VRels] at e; subst e; exact .nil
  | _ :: _, _, 0, e => by
    simp only [VRels] at e
    obtain ⟨u, r, rfl, a, b⟩ := e
    exact ⟨v, r, rfl, rv, b⟩
  | _ :: _, _, k + 1, e => by
    simp only [VRels] at e
    obtain ⟨u, r, rfl, a, b⟩ := e
    exact ⟨u, r.set k v, rfl, a, VRels.set rv b⟩
theorem SoundS.setItem {o i e : Expr} {a b c : X} {p pos : Pos} {mg mb} (T : TopOK B G mg mb) (ho : SoundE prog w B vars S n kd o a) (hi : SoundE prog w B vars S n kd i b) (he : SoundE prog w B vars S n kd e c) (hc : notComp e = true := by rfl) :
    SoundS prog w B vars S n kd (.Assign [.Subscript o i p] e pos) (.setItem a b c) := fun env A ρ σ s Q hk g M q => by
  simp only [wpS] at q
  refine wpAny_Assign_Subscript (wpAny_mono (he.ev env A ρ σ s _ hk g M q) (fun v s₁ h₁ => ?_) fun _ _ x => x) (swaps_no hc)
  obtain ⟨y, σ₁, rv, M₁, T₁, q₁⟩ := h₁
  refine wpAny_mono (ho.ev env A ρ σ₁ s₁ _ hk g M₁ q₁) (fun vo s₂ h₂ => ?_) fun _ _ x => x
  obtain ⟨yo, σ₂, ro, M₂, T₂, q₂⟩ := h₂
  refine wpAny_mono (hi.ev env A ρ σ₂ s₂ _ hk g M₂ q₂) (fun vi s₃ h₃ => ?_) fun _ _ x => x
  obtain ⟨yi, σ₃, ri, M₃, T₃, q₃⟩ := h₃
  have TT := (T₁.trans T₂).trans T₃
  have rv₃ : VRel s₃.heap y v := (rv.step M₁ T₂).step M₂ T₃
  unfold setV at q₃
  obtain ⟨pp, rfl, q₃⟩ := q₃
  simp only [VRel] at ro; subst ro
  split at q₃
  · rename_i l k hp
    obtain ⟨h0, h1, q₃⟩ := q₃
    simp only [VRel] at ri; obtain ⟨t, rfl⟩ := ri
    obtain ⟨vs, ⟨hl, hpl⟩, z, rs⟩ := M₃.core.objs _ _ hp
    have hlen := rs.length
    simp only [Array.length_toList] at hlen
    obtain ⟨cn, hg⟩ := hpl rfl
    refine PySem.W.ki_setAt hg h0 (by omega) (by omega) ?_
    have hsb : Heap.SameBut pp s₃.heap (s₃.heap.update pp (Obj.mapSeq (·.setIfInBounds k.toNat v))) := Heap.SameBut.update ..
    have hnew := PySem.IsL.update hg (·.setIfInBounds k.toNat v)
    have hnt : ∀ o, s₃.heap.get? pp = some o → ¬ tupLike o := fun o e => by
      obtain ⟨b, hb, hn, _⟩ := (M₃.core.objs _ _ hp).get; rw [hb] at e; cases e; exact hn
    have ht : ∀ c o, s₃.heap.get? c = some o → tupLike o → (s₃.heap.update pp (Obj.mapSeq (·.setIfInBounds k.toNat v))).get? c = some o := fun c o e ht => hsb.extBut c o (fun z => by subst z; exact hnt o e ht) e
    have hpn : (s₃.heap.update pp (Obj.mapSeq (·.setIfInBounds k.toNat v))).PlainList pp (vs.setIfInBounds k.toNat v) := ⟨_, hnew⟩
    obtain ⟨M₄, T₄⟩ := M₃.set (o' := .list true (l.set k.toNat y)) (h' := s₃.heap.update pp (Obj.mapSeq (·.setIfInBounds k.toNat v))) s₃.toks hp rfl (fun b o hb e => hsb.extBut b o hb e)
      ⟨vs.setIfInBounds k.toNat v, ⟨hpn.isList, fun _ => hpn⟩, by simpa using z, by rw [Array.toList_setIfInBounds]; exact VRels.set (rv₃.keep ht) (rs.keep ht)⟩
    exact ⟨.next, ρ, _, rfl, M₄, TT.trans T₄, q₃⟩
  · rename_i es x hp
    obtain ⟨hz, q₃⟩ := q₃
    simp only [VRel] at ri; obtain ⟨t, rfl⟩ := ri
    obtain ⟨kvs, hd, hkk, hv⟩ := M₃.core.objs _ _ hp
    have hl := congrArg List.length hkk
    simp only [List.length_map] at hl
    refine wpAny_setItem_pairs (knd := PySem.strKind prog w) (k := x) (by simp [PySem.strKind, Value.isStrOf]) hd (fun h' hd' hs => ?_) (by rw [sizeLine_eq]; omega)
    have hnt : ∀ o, s₃.heap.get? pp = some o → ¬ tupLike o := fun o e => by
      obtain ⟨b, hb, hn, _⟩ := (M₃.core.objs _ _ hp).get; rw [hb] at e; cases e; exact hn
    have ht : ∀ c o, s₃.heap.get? c = some o → tupLike o → h'.get? c = some o := fun c o e ht => hs.extBut c o (fun z => by subst z; exact hnt o e ht) e
    obtain ⟨M₄, T₄⟩ := M₃.set (o' := .ds true (put es x y)) (h' := h') (s₃.toks + 1) hp rfl (fun b o hb e => hs.extBut b o hb e) ⟨_, hd', put_stored hkk (hv.keep ht) (rv₃.keep ht)⟩ (hdd := fun _ => M₃.core.dic _ _ hp rfl)
    exact ⟨.next, ρ, _, rfl, M₄, TT.trans T₄, q₃⟩
  · rename_i es x hp
    obtain ⟨hz, q₃⟩ := q₃
    simp only [VRel] at ri; obtain ⟨t, rfl⟩ := ri
    obtain ⟨kvs, hd, hkk, hv⟩ := M₃.core.objs _ _ hp
    have hl := congrArg List.length hkk
    simp only [List.length_map] at hl
    refine wpAny_setItem_pairs (knd := PySem.intKind prog w) (k := x) (by simp [PySem.intKind, Value.isInt]) hd (fun h' hd' hs => ?_) (by rw [sizeLine_eq]; omega)
    have hnt : ∀ o, s₃.heap.get? pp = some o → ¬ tupLike o := fun o e => by
      obtain ⟨b, hb, hn, _⟩ := (M₃.core.objs _ _ hp).get; rw [hb] at e; cases e; exact hn
    have ht : ∀ c o, s₃.heap.get? c = some o → tupLike o → h'.get? c = some o := fun c o e ht => hs.extBut c o (fun z => by subst z; exact hnt o e ht) e
    obtain ⟨M₄, T₄⟩ := M₃.set (o' := .di true (put es x y)) (h' := h') (s₃.toks + 1) hp rfl (fun b o hb e => hs.extBut b o hb e) ⟨_, hd', put_stored hkk (hv.keep ht) (rv₃.keep ht)⟩ (hdd := fun _ => M₃.core.dic _ _ hp rfl)
    exact ⟨.next, ρ, _, rfl, M₄, TT.trans T₄, q₃⟩
  · exact q₃.elim
end
end Mine

namespace Mine
open PySem PyProof.Rows

section
variable {prog : Program} {w : World} {B : Shared} {vars : List Str} {S : Spec} {n : Nat} {G : Gl} {kd : Str → Option NameKind} {env : Env} {ρ ρ' : Loc} {σ σ₁ σ' : Store} {s s₁ s' : Shared} {A : Around}

theorem forLoop_own {R : Result → Shared → Prop} {target : Expr} {it : Value} {body : List Stmt} (I : Nat → Shared → Prop)
    (turn : ∀ k s, I k s → wpAny (model prog w) A (pyNext it) (fun r s₁ => match r with
      | none => R (.ok .next) s₁
      | some v => wpAny (model prog w) A (letOwnedTupleGo target it v) (fun _ s₂ => wpAny (model prog w) A (assign target env v) (fun _ s₃ => wpAny (model prog w) A (execs body env) (fun f s₄ => match f with
          | .next | .cont => ∃ m, m < k ∧ I m s₄
          | .brk => R (.ok .next) s₄
          | .ret v => R (.ok (.ret v)) s₄) (fun _ _ => False) s₃) (fun _ _ => False) s₂) (fun _ _ => False) s₁) (fun _ _ => False) s)
    (k : Nat) (h : I k s) : codeAny (model prog w) A (.forLoop target it body [] env) R s := by
  refine codeAny_loop' rfl I (fun k s hI => ?_) k h
  show wpAny _ _ ((forTurn target it body [] env).onRaise (fun x => do noteFrame x env; theTreesLotGoes x)) _ _ s
  refine wpAny_noted ?_
  unfold forTurn
  refine wpAny_bind (wpAny_standAt (wpAny_bind (wpAny_onRaise (wpAny_mono (turn k s hI) (fun r s₁ h₁ => ?_) fun _ _ h' => h'.elim))))
  cases r with
  | none => exact wpAny_pure (.inr ⟨rfl, codeAny_block (wpAny_execs_nil h₁)⟩)
  | some v =>
    refine wpAny_bind (wpAny_mono h₁ (fun _ s₂ h₂ => wpAny_bind (wpAny_mono h₂ (fun _ s₃ h₃ => wpAny_bind (wpAny_mono h₃ (fun f s₄ h₄ => ?_) fun _ _ h' => h'.elim)) fun _ _ h' => h'.elim)) fun _ _ h' => h'.elim)
    cases f with
    | next => exact wpAny_pure (.inl ⟨rfl, h₄⟩)
    | cont => exact wpAny_pure (.inl ⟨rfl, h₄⟩)
    | brk => exact wpAny_pure h₄
    | ret v => exact wpAny_pure h₄

/-- what a loop's iterator asks of the state -/
structure LooseOK (B : Shared) (env : Env) (fp wr : List Addr) (σ : Store) (s : Shared) : Prop where
  w : ∀ b ∈ wr, σ b = none ∧ B.heap.get? b = none
  f : ∀ b ∈ fp, Sh σ b ∧ ¬ Own env b

theorem LooseOK.step {fp wr : List Addr} (L : LooseOK B env fp wr σ s) (hs : ∀ b ∈ wr, b ∈ fp) (hl : ∀ b ∈ fp, ∃ o, s.heap.get? b = some o) (T : Step (Own env) σ s σ' s') : LooseOK B env fp wr σ' s' where
  w b hb := by
    obtain ⟨o, e⟩ := hl b (hs b hb)
    exact ⟨T.no b o e (L.w b hb).1 (L.f b (hs b hb)).2, (L.w b hb).2⟩
  f b hb := by
    obtain ⟨o, e⟩ := hl b hb
    exact ⟨T.shut b o e (L.f b hb).1 (L.f b hb).2, (L.f b hb).2⟩

theorem Iter.moved {I : Addr} {fp wr : List Addr} {items : List V} {ok : Store → Prop} {St : Nat → Heap → Prop} {k : Nat} (J : Iter prog w B I fp wr items ok St) (L : LooseOK B env fp wr σ s) (M : Sim prog w B vars env ρ σ s) (st : St k s.heap) {h' : Heap} (tk : Nat)
    (hk : ∀ b o, b ∉ wr → s.heap.get? b = some o → h'.get? b = some o) : Sim prog w B vars env ρ σ { s with heap := h', toks := tk } :=
  M.move (· ∈ wr) tk hk fun a ha => ⟨(L.w a ha).1, (L.w a ha).2, (L.f a (J.sub a ha)).2, fun o e => J.loose k _ a o st ha e⟩

theorem for_run {I : Addr} {fp wr : List Addr} {items : List V} {ok : Store → Prop} {St : Nat → Heap → Prop} {target : Expr} {tg : Tgt} {body : List Stmt} {xs : List Mine.S} {Q : FPost} (J : Iter prog w B I fp wr items ok St) (g : Good A n) (hk : env.kindOf = kd)
    (ht : SoundT prog w B vars kd target tg) (hb : SoundSs prog w B vars S n kd body xs) (M : Sim prog w B vars env ρ σ s) (st : St 0 s.heap) (L : LooseOK B env fp wr σ s)
    (q : forW ok (fun v ρ σ Q => ∃ ρ', bindT tg v ρ = some ρ' ∧ wpSs S xs ρ' σ Q) items ρ σ Q) :
    codeAny (model prog w) A (.forLoop target (.ref I) body [] env) (fun r s' => ∃ f fl ρ' σ', r = .ok f ∧ FRel s'.heap fl f ∧ Sim prog w B vars env ρ' σ' s' ∧ Step (fun a => Own env a ∨ a ∈ wr) σ s σ' s' ∧ Q fl ρ' σ') s := by
  refine forLoop_own (fun m s' => ∃ k ρ' σ', m = items.length + 1 - k ∧ k ≤ items.length ∧ Sim prog w B vars env ρ' σ' s' ∧ St k s'.heap ∧ LooseOK B env fp wr σ' s' ∧ Step (fun a => Own env a ∨ a ∈ wr) σ s σ' s' ∧
    forW ok (fun v ρ σ Q => ∃ ρ', bindT tg v ρ = some ρ' ∧ wpSs S xs ρ' σ Q) (items.drop k) ρ' σ' Q) ?_ (items.length + 1) ⟨0, ρ, σ, rfl, Nat.zero_le _, M, st, L, .refl, by simpa using q⟩
  rintro m s₀ ⟨k, ρ₀, σ₀, rfl, hkl, M₀, st₀, L₀, T₀, q₀⟩
  by_cases hlt : k < items.length
  · have hx : items[k]? = some items[k] := List.getElem?_eq_getElem hlt
    rw [List.drop_eq_getElem_cons hlt] at q₀
    simp only [forW] at q₀
    obtain ⟨hok, ρ₁, hρ, q₁⟩ := q₀
    refine J.next A k items[k] σ₀ s₀ _ _ g.hd hx st₀ M₀.core hok fun v h₁ tk₁ rv st₁ hk₁ => ?_
    have M₁ := J.moved L₀ M₀ st₀ tk₁ hk₁
    have T₁ : Step (fun a => Own env a ∨ a ∈ wr) σ₀ s₀ σ₀ { s₀ with heap := h₁, toks := tk₁ } := Step.move fun b o hb e => hk₁ b o (fun z => hb (.inr z)) e
    have L₁ : LooseOK B env fp wr σ₀ { s₀ with heap := h₁, toks := tk₁ } := ⟨L₀.w, L₀.f⟩
    refine J.owned A k v target _ _ _ st₁ fun h₂ tk₂ st₂ hk₂ => ?_
    have M₂ := J.moved L₁ M₁ st₁ tk₂ hk₂
    have T₂ : Step (fun a => Own env a ∨ a ∈ wr) σ₀ { s₀ with heap := h₁, toks := tk₁ } σ₀ { s₀ with heap := h₂, toks := tk₂ } := Step.move fun b o hb e => hk₂ b o (fun z => hb (.inr z)) e
    have rv₂ : VRel h₂ items[k] v := rv.keep fun c o e htl => hk₂ c o (fun z => J.loose (k + 1) _ c o st₁ z e htl) e
    refine ht env A ρ₀ ρ₁ σ₀ _ _ v _ _ hk g.hd M₂ rv₂ hρ fun h₃ tk₃ M₃ hk₃ => ?_
    have T₃ : Step (Own env) σ₀ { s₀ with heap := h₂, toks := tk₂ } σ₀ { s₀ with heap := h₃, toks := tk₃ } := Step.move hk₃
    have st₃ : St (k + 1) h₃ := J.frame _ _ _ st₂ fun b hb o e => hk₃ b o (L₀.f b hb).2 e
    refine wpAny_mono (hb env A ρ₁ σ₀ _ _ hk g M₃ q₁) (fun f s₄ h₄ => ?_) fun _ _ x => x
    obtain ⟨fl, ρ₄, σ₄, fr, M₄, T₄, q₄⟩ := h₄
    have TT : Step (fun a => Own env a ∨ a ∈ wr) σ s σ₄ s₄ := ((T₀.trans (T₁.trans T₂)).trans (T₃.more fun a z => .inl z)).trans (T₄.more fun a z => .inl z)
    cases fl with
    | next =>
      simp only [FRel] at fr; subst fr
      have L₃ : LooseOK B env fp wr σ₀ { s₀ with heap := h₃, toks := tk₃ } := ⟨L₀.w, L₀.f⟩
      have hlive : ∀ b ∈ fp, ∃ o, h₃.get? b = some o := fun b hb => J.live _ _ b st₃ hb
      refine ⟨items.length + 1 - (k + 1), by omega, k + 1, ρ₄, σ₄, rfl, hlt, M₄, J.frame _ _ _ st₃ fun b hb o e => T₄.keep b o e (L₀.f b hb).1 (L₀.f b hb).2, L₃.step J.sub hlive T₄, TT, q₄⟩
    | ret y =>
      obtain ⟨u, rfl, ru⟩ := fr
      exact ⟨_, .ret y, ρ₄, σ₄, rfl, ⟨u, rfl, ru⟩, M₄, TT, q₄⟩
  · have hke : k = items.length := by omega
    subst hke
    rw [List.drop_length] at q₀
    simp only [forW] at q₀
    refine J.done A σ₀ s₀ _ _ g.hd st₀ M₀.core q₀.1 fun h₁ tk₁ hk₁ => ?_
    have M₁ := J.moved L₀ M₀ st₀ tk₁ hk₁
    have T₁ : Step (fun a => Own env a ∨ a ∈ wr) σ₀ s₀ σ₀ { s₀ with heap := h₁, toks := tk₁ } := Step.move fun b o hb e => hk₁ b o (fun z => hb (.inr z)) e
    exact ⟨_, .next, ρ₀, σ₀, rfl, rfl, M₁, T₀.trans T₁, q₀.2⟩

theorem folded_no {e : Expr} {env : Env} (h : notSet e = true) : ∀ x, foldedSetIterable e env x = pure x := by
  intro x
  cases e <;> first | rfl | cases h

theorem Iter.dictKeys {K : Type} [DecidableEq K] {knd : KeyKind prog w K} {d I : Addr} {kvs : List (K × Value)} {ep : Nat} {items : List V} (hne : d ≠ I) (hl : items.length = kvs.length) (hP : ∀ (k : Nat) x v (h : Heap), items[k]? = some x → (∃ kk u, kvs[k]? = some (kk, u) ∧ knd.is kk v = true) → VRel h x v) :
    Iter prog w B I [I, d] [I] items (fun _ => True) (fun i h => h.IsKeyIter I d i kvs.length ep ∧ h.DictAt knd d kvs ep) := by
  refine Walks.iter (T := "dict_keyiterator") (P := fun i v => ∃ k x, kvs[i]? = some (k, x) ∧ knd.is k v = true) (fun A' hA => by rw [hl]; exact Walks.dictKeys hA I d hne kvs ep) (by simp) rfl hP (by decide) (fun k h st => ?_) (fun k h b st hb => ?_) (by decide)
  · obtain ⟨⟨o, ho, hc, _⟩, _⟩ := st; exact ⟨o, ho, hc⟩
  · simp at hb
    rcases hb with rfl | rfl
    · obtain ⟨⟨o, ho, hc, _⟩, _⟩ := st; exact ⟨o, ho⟩
    · obtain ⟨_, o, es, ho, _⟩ := st; exact ⟨o, ho⟩

theorem set_self {σ : Store} {p : Addr} {o : O} : (σ.set p o) p = some o := by simp [Store.set]
theorem set_ne {σ : Store} {p a : Addr} {o : O} (h : a ≠ p) : (σ.set p o) a = σ a := by simp [Store.set, h]

theorem frz_isD {o : O} (h : o.isD = true) : o.frz.isD = true ∧ o.frz.mut = false := by cases o <;> first | exact ⟨rfl, rfl⟩ | cases h

theorem Sim.freeze (M : Sim prog w B vars env ρ σ s) {p : Addr} {o : O} (hp : σ p = some o) (hd : o.isD = true) : Sim prog w B vars env ρ (σ.set p o.frz) s := by
  refine ⟨⟨M.core.same, M.core.base, fun a x e => ?_, fun a x e hx => ?_, fun a x e hx => ?_, M.core.low⟩, M.frame.kept (fun _ _ _ e => e) (fun _ _ e _ => e) fun a ha => ?_⟩
  · by_cases q : a = p
    · subst q; rw [set_self] at e; cases e; exact (M.core.objs a o hp).mut hd
    · rw [set_ne q] at e; exact M.core.objs a x e
  · by_cases q : a = p
    · subst q; exact M.core.new a o hp (.inr hd)
    · rw [set_ne q] at e; exact M.core.new a x e hx
  · by_cases q : a = p
    · subst q; exact M.core.dic a o hp hd
    · rw [set_ne q] at e; exact M.core.dic a x e hx
  · rw [set_ne (fun q => by subst q; rw [(M.frame.own a ha).1] at hp; cases hp)]; exact (M.frame.own a ha).1
theorem Sim.thaw (M : Sim prog w B vars env ρ σ s) {p : Addr} {o : O} (hp : σ p = some o.frz) (hd : o.isD = true) : Sim prog w B vars env ρ (σ.set p o) s := by
  refine ⟨⟨M.core.same, M.core.base, fun a x e => ?_, fun a x e hx => ?_, fun a x e hx => ?_, M.core.low⟩, M.frame.kept (fun _ _ _ e => e) (fun _ _ e _ => e) fun a ha => ?_⟩
  · by_cases q : a = p
    · subst q; rw [set_self] at e; cases e; exact (M.core.objs a _ hp).unfrz hd
    · rw [set_ne q] at e; exact M.core.objs a x e
  · by_cases q : a = p
    · subst q; exact M.core.new a _ hp (.inr (frz_isD hd).1)
    · rw [set_ne q] at e; exact M.core.new a x e hx
  · by_cases q : a = p
    · subst q; exact M.core.dic a _ hp (frz_isD hd).1
    · rw [set_ne q] at e; exact M.core.dic a x e hx
  · rw [set_ne (fun q => by subst q; rw [(M.frame.own a ha).1] at hp; cases hp)]; exact (M.frame.own a ha).1

theorem for_dict {K : Type} [DecidableEq K] {knd : KeyKind prog w K} {p : Addr} {o : O} {es : List (K × V)} {keys : List V} {target : Expr} {tg : Tgt} {body : List Stmt} {xs : List Mine.S} {Q : FPost} (g : Good A n) (hk : env.kindOf = kd) (hm : (p == sysModules) = false)
    (ht : SoundT prog w B vars kd target tg) (hb : SoundSs prog w B vars S n kd body xs) (M : Sim prog w B vars env ρ σ s) (hp : σ p = some o) (hd : o.isD = true) (hdr : DRel prog w knd s.heap p es) (hlen : keys.length = es.length)
    (hkeys : ∀ (k : Nat) x v (h : Heap) kk u, keys[k]? = some x → es[k]? = some (kk, u) → knd.is kk v = true → VRel h x v)
    (q : forW (fun _ => True) (fun v ρ σ Q => ∃ ρ', bindT tg v ρ = some ρ' ∧ wpSs S xs ρ' σ Q) keys ρ (σ.set p o.frz) fun f ρ' σ' => σ' p = some o.frz ∧ Q f ρ' (σ'.set p o)) :
    wpAny (model prog w) A (pyIter (.ref p)) (fun it s₂ => codeAny (model prog w) A (.forLoop target it body [] env) (fun r s' => ∃ f, r = .ok f ∧ GotF prog w B vars env σ s Q f s') s₂) (fun _ _ => False) s := by
  obtain ⟨kvs, hdo, hkk, hv⟩ := hdr
  obtain ⟨ep, hda⟩ := hdo.dictAt
  have hl2 := congrArg List.length hkk
  simp only [List.length_map] at hl2
  refine wpAny_pyIter_dict hm hda ?_
  have hne : p ≠ s.heap.objs.size := by obtain ⟨o', es', ho, _⟩ := hda; exact Nat.ne_of_lt (Heap.lt_size ho)
  have hI := get_size s.heap
  obtain ⟨M₂, T₂⟩ := M.keeps (h' := s.heap.push { cls := .type "dict_keyiterator", data := .fields #[.ref p, .int 0 0, .int kvs.length 0, .int ep 0] }) s.toks fun b o e => Heap.get?_push_of_some _ e
  have M₃ := M₂.freeze hp hd
  have J : Iter prog w B s.heap.objs.size [s.heap.objs.size, p] [s.heap.objs.size] keys (fun _ => True) (fun i h => h.IsKeyIter s.heap.objs.size p i kvs.length ep ∧ h.DictAt knd p kvs ep) :=
    Iter.dictKeys hne (by omega) fun k x v h hx hP => by
      obtain ⟨kk, u, h1, h2⟩ := hP
      have h3 : (es.map (·.1))[k]? = some kk := by rw [← hkk]; simp [h1]
      simp only [List.getElem?_map, Option.map_eq_some_iff] at h3
      obtain ⟨⟨k', u'⟩, h4, h5⟩ := h3
      subst h5
      exact hkeys k x v h _ u' hx h4 h2
  have hno : ¬ Own env s.heap.objs.size := fun z => by obtain ⟨o, e⟩ := M.frame.exists z; rw [hI] at e; cases e
  have hnp : ¬ Own env p := fun z => by rw [(M.frame.own p z).1] at hp; cases hp
  have L : LooseOK B env [s.heap.objs.size, p] [s.heap.objs.size] (σ.set p o.frz) { s with heap := s.heap.push { cls := .type "dict_keyiterator", data := .fields #[.ref p, .int 0 0, .int kvs.length 0, .int ep 0] } } := by
    refine ⟨fun b hb => ?_, fun b hb => ?_⟩
    · simp at hb; subst hb; rw [set_ne (Ne.symm hne)]; exact M.core.free hI
    · simp at hb
      rcases hb with rfl | rfl
      · refine ⟨.of_none ?_, hno⟩; rw [set_ne (Ne.symm hne)]; exact (M.core.free hI).1
      · refine ⟨fun x e => ?_, hnp⟩; rw [set_self] at e; cases e; exact (frz_isD hd).2
  refine codeAny_mono (for_run J g hk ht hb M₃ ⟨⟨_, Heap.get?_push_size _ rfl, rfl, rfl⟩, hda.push _⟩ L q) fun r s₃ h₃ => ?_
  obtain ⟨f, fl, ρ₃, σ₃, rfl, fr, M₄, T₄, hp₃, q₃⟩ := h₃
  refine ⟨f, rfl, fl, ρ₃, σ₃.set p o, fr, M₄.thaw hp₃ hd, ?_, q₃⟩
  have hIne : ∀ a o', s.heap.get? a = some o' → a ≠ s.heap.objs.size := fun a o' e z => by rw [z, hI] at e; cases e
  have hown : ∀ a o', s.heap.get? a = some o' → ¬ Own env a → ¬ (Own env a ∨ a ∈ [s.heap.objs.size]) := fun a o' e h z => z.elim h fun z => hIne a o' e (by simpa using z)
  refine ⟨fun a x e hs ho => ?_, fun a x e hs ho => ?_, fun a x e hs ho => ?_⟩
  · refine T₄.keep a x (Heap.get?_push_of_some _ e) (fun y ey => ?_) (hown a x e ho)
    by_cases z : a = p
    · subst z; rw [set_self] at ey; cases ey; exact (frz_isD hd).2
    · rw [set_ne z] at ey; exact hs y ey
  · have z : a ≠ p := fun z => by subst z; rw [hs] at hp; cases hp
    rw [set_ne z]
    exact T₄.no a x (Heap.get?_push_of_some _ e) (by rw [set_ne z]; exact hs) (hown a x e ho)
  · intro y ey
    by_cases z : a = p
    · subst z; rw [set_self] at ey; cases ey; exact hs _ hp
    · rw [set_ne z] at ey
      exact T₄.shut a x (Heap.get?_push_of_some _ e) (fun y ey => by rw [set_ne z] at ey; exact hs y ey) (hown a x e ho) y ey

theorem SoundS.for {target iter : Expr} {tg : Tgt} {it : X} {body : List Stmt} {xs : List Mine.S} {pos : Pos} {mg mb} (T : TopOK B G mg mb) (ht : SoundT prog w B vars kd target tg) (hi : SoundE prog w B vars S n kd iter it) (hb : SoundSs prog w B vars S n kd body xs) (hset : notSet iter = true := by rfl) :
    SoundS prog w B vars S n kd (.For target iter body [] pos) (.for tg it xs) := fun env A ρ σ s Q hk g M q => by
  simp only [wpS] at q
  refine wpAny_For (wpAny_mono (hi.ev env A ρ σ s _ hk g M q) (fun v s₁ h₁ => ?_) fun _ _ x => x) (folded_no hset)
  obtain ⟨x, σ₁, rv, M₁, T₁, q₁⟩ := h₁
  split at q₁
  · unfold forD at q₁
    obtain ⟨p, o, keys, rfl, hp, hkeys, q₁⟩ := q₁
    simp only [VRel] at rv; subst rv
    have fin : ∀ (it : Value) (s₂ : Shared), codeAny (model prog w) A (.forLoop target it body [] env) (fun r s' => ∃ f, r = .ok f ∧ GotF prog w B vars env σ₁ s₁ Q f s') s₂ →
        codeAny (model prog w) A (.forLoop target it body [] env) (fun r s' => match r with | .ok f => GotF prog w B vars env σ s Q f s' | .error e => cameBackBy (model prog w) A env (fun _ _ => False) e s') s₂ := fun it s₂ h => codeAny_mono h fun r s₃ h₃ => by
      obtain ⟨f, rfl, h₃⟩ := h₃; exact h₃.trans T₁
    cases o with
    | list m l => exact hkeys.elim
    | ds m es =>
      refine wpAny_mono (for_dict (knd := PySem.strKind prog w) g hk (M₁.core.notMods T hp rfl) ht hb M₁ hp rfl (M₁.core.objs _ _ hp) (by rw [hkeys]; simp) (fun k x v h kk u hx he hv => ?_) q₁) fin fun _ _ x => x
      rw [hkeys] at hx
      simp [he] at hx; subst hx
      obtain ⟨t, rfl⟩ := Value.isStrOf_shape hv
      simp [VRel]
    | di m es =>
      refine wpAny_mono (for_dict (knd := PySem.intKind prog w) g hk (M₁.core.notMods T hp rfl) ht hb M₁ hp rfl (M₁.core.objs _ _ hp) (by rw [hkeys]; simp) (fun k x v h kk u hx he hv => ?_) q₁) fin fun _ _ x => x
      rw [hkeys] at hx
      simp [he] at hx; subst hx
      obtain ⟨t, rfl⟩ := Value.isInt_shape hv
      simp [VRel]
  · obtain ⟨items, ok, hsrc, q₁⟩ := q₁
    refine src_iter M₁.core rv hsrc fun I St h' tk hI J st0 hkeep hIo hok => ?_
    obtain ⟨M₂, T₂⟩ := M₁.keeps (h' := h') tk hkeep
    have hno : ¬ Own env I := fun z => by obtain ⟨o, e⟩ := M₁.frame.exists z; rw [hI] at e; cases e
    have L : LooseOK B env [I] [I] σ₁ { s₁ with heap := h', toks := tk } := ⟨fun b hb => by simp at hb; subst hb; exact M₁.core.free hI, fun b hb => by simp at hb; subst hb; exact ⟨.of_none (M₁.core.free hI).1, hno⟩⟩
    refine codeAny_mono (for_run J g hk ht hb M₂ st0 L q₁) fun r s₃ h₃ => ?_
    obtain ⟨f, fl, ρ₃, σ₃, rfl, fr, M₃, T₃, q₃⟩ := h₃
    refine ⟨fl, ρ₃, σ₃, fr, M₃, T₁.trans (Step.less ((T₂.more fun a z => .inl z).trans T₃) fun a o e z => ?_), q₃⟩
    rcases z with z | z
    · exact z
    · simp at z; subst z; rw [hI] at e; cases e

theorem SoundS.while {c : Expr} {x : X} {body : List Stmt} {xs : List Mine.S} {pos : Pos} (hc : SoundE prog w B vars S n kd c x) (hb : SoundSs prog w B vars S n kd body xs) : SoundS prog w B vars S n kd (.While c body [] pos) (.while x xs) := fun env A ρ σ s Q hk g M q => by
  simp only [wpS] at q
  obtain ⟨m, q⟩ := q
  refine wpAny_While ?_
  refine codeAny_whileLoop (fun k s' => ∃ ρ' σ', Sim prog w B vars env ρ' σ' s' ∧ Step (Own env) σ s σ' s' ∧ whileW (fun ρ σ Q => wpE S x ρ σ (asBool Q)) (fun ρ σ Q => wpSs S xs ρ σ Q) k ρ' σ' Q) ?_ m ⟨ρ, σ, M, .refl, q⟩
  rintro k s₀ ⟨ρ₀, σ₀, M₀, T₀, q₀⟩
  cases k with
  | zero => exact q₀.elim
  | succ k =>
    simp only [whileW] at q₀
    refine wpAny_mono (hc.tr env A ρ₀ σ₀ s₀ _ hk g M₀ q₀) (fun t s₁ h₁ => ?_) fun _ _ x => x.elim
    obtain ⟨σ₁, M₁, T₁, q₁⟩ := h₁
    cases t with
    | false => exact wpAny_execs_nil ⟨.next, ρ₀, σ₁, rfl, M₁, T₀.trans T₁, q₁⟩
    | true =>
      refine wpAny_mono (hb env A ρ₀ σ₁ s₁ _ hk g M₁ q₁) (fun f s₂ h₂ => ?_) fun _ _ x => x.elim
      obtain ⟨fl, ρ₂, σ₂, fr, M₂, T₂, q₂⟩ := h₂
      cases fl with
      | next => simp only [FRel] at fr; subst fr; exact ⟨k, Nat.lt_succ_self k, ρ₂, σ₂, M₂, (T₀.trans T₁).trans T₂, q₂⟩
      | ret y => obtain ⟨u, rfl, ru⟩ := fr; exact ⟨.ret y, ρ₂, σ₂, ⟨u, rfl, ru⟩, M₂, (T₀.trans T₁).trans T₂, q₂⟩
end
end Mine

namespace Mine
open PySem PyProof.Rows

section
variable {prog : Program} {w : World} {B : Shared} {vars : List Str} {S : Spec} {n : Nat} {G : Gl} {kd : Str → Option NameKind} {env : Env} {ρ ρ' : Loc} {σ σ₁ σ' : Store} {s s₁ s' : Shared} {A : Around}

theorem compLoop_own {R : Result → Shared → Prop} {elt target iter : Expr} {ifs : List Expr} {scope : Scope} {pos : Pos} {it acc : Value} {env : Env} (I : Nat → Shared → Prop)
    (turn : ∀ k s, I k s → wpAny (model prog w) A (pyNext it) (fun r s₁ => match r with
      | none => R (.ok .next) s₁
      | some v => wpAny (model prog w) A (letOwnedTupleGo target it v) (fun _ s₂ => wpAny (model prog w) A (assign target env v) (fun _ s₃ =>
          wpAny (model prog w) A (forIn ifs true fun c r => if r = true then do let ok ← isTrue c env (eval c env); pure (ForInStep.yield ok) else pure (ForInStep.yield r)) (fun ok s₄ =>
            if ok = true then wpAny (model prog w) A (eval elt env) (fun x s₅ =>
              wpAny (model prog w) A (call (.builtin "list.append") [acc, x]) (fun _ s₆ => ∃ m, m < k ∧ I m s₆) (fun _ _ => False) s₅) (fun _ _ => False) s₄
            else ∃ m, m < k ∧ I m s₄) (fun _ _ => False) s₃) (fun _ _ => False) s₂) (fun _ _ => False) s₁) (fun _ _ => False) s)
    (k : Nat) (h : I k s) : codeAny (model prog w) A (.compLoop (.ListComp elt [⟨target, iter, ifs, 0⟩] scope pos) 0 it acc env) R s := by
  refine codeAny_loop rfl I (fun k s hI => ?_) k h
  show wpAny _ A ((compTurn (.ListComp elt [⟨target, iter, ifs, 0⟩] scope pos) 0 it acc env).onRaise (fun x => do noteFrame x env; theTreesLotGoes x)) _ _ s
  refine wpAny_noted ?_
  rw [compTurn_list]
  refine wpAny_bind (wpAny_standAt (wpAny_bind (wpAny_mono (turn k s hI) (fun r s₁ h₁ => ?_) fun _ _ h' => h'.elim)))
  cases r with
  | none => exact wpAny_pure h₁
  | some v =>
    refine wpAny_bind (wpAny_mono h₁ (fun _ s₂ h₂ => wpAny_bind (wpAny_mono h₂ (fun _ s₃ h₃ => wpAny_bind (wpAny_mono h₃ (fun ok s₄ h₄ => ?_) fun _ _ h' => h'.elim)) fun _ _ h' => h'.elim)) fun _ _ h' => h'.elim)
    cases ok with
    | false => exact wpAny_pure ⟨rfl, h₄⟩
    | true => exact wpAny_bind (wpAny_bind (wpAny_mono h₄ (fun x s₅ h₅ => wpAny_bind (wpAny_mono h₅ (fun _ s₆ h₆ => wpAny_pure (wpAny_pure ⟨rfl, h₆⟩)) fun _ _ h' => h'.elim)) fun _ _ h' => h'.elim))

/-- the ids of a target -/
noncomputable def Tgt.ids : Tgt → List Nat
  | .one i => [i]
  | .many is => is

theorem bindMany_agree {ρ₁ : Loc} : ∀ {is : List Nat} {l : List V} {ρ ρ₂ : Loc}, bindMany is l ρ = some ρ₁ → (∀ j, j ∉ is → ρ j = ρ₂ j) → bindMany is l ρ₂ = some ρ₁
  | [], [], ρ, ρ₂, h, ha => by
    simp only [bindMany] at h ⊢; rw [← h]; congr 1; funext j; exact (ha j (by simp)).symm
  | [], _ :: _, _, _, h, _ => by simp [bindMany] at h
  | _ :: _, [], _, _, h, _ => by simp [bindMany] at h
  | i :: is, y :: l, ρ, ρ₂, h, ha => by
    simp only [bindMany] at h ⊢
    refine bindMany_agree h fun j hj => ?_
    simp only [Loc.set]
    split
    · rfl
    · rename_i hi; exact ha j (by simp [hi, hj])
theorem bindMany_else {ρ₁ : Loc} : ∀ {is : List Nat} {l : List V} {ρ : Loc}, bindMany is l ρ = some ρ₁ → ∀ j, j ∉ is → ρ₁ j = ρ j
  | [], [], ρ, h, j, _ => by simp only [bindMany] at h; cases h; rfl
  | [], _ :: _, _, h, _, _ => by simp [bindMany] at h
  | _ :: _, [], _, h, _, _ => by simp [bindMany] at h
  | i :: is, y :: l, ρ, h, j, hj => by
    simp only [bindMany] at h
    simp at hj
    rw [bindMany_else h j hj.2]; simp [Loc.set, hj.1]
theorem bindT_agree {tg : Tgt} {y : V} {ρ ρ₁ ρ₂ : Loc} (h : bindT tg y ρ = some ρ₁) (ha : ∀ j, j ∉ tg.ids → ρ j = ρ₂ j) : bindT tg y ρ₂ = some ρ₁ := by
  cases tg with
  | one i =>
    simp only [bindT] at h ⊢; cases h; congr 1; funext j
    simp only [Loc.set]; split
    · rfl
    · rename_i hi; exact (ha j (by simpa [Tgt.ids] using hi)).symm
  | many is => cases y <;> simp only [bindT] at h ⊢ <;> first | exact bindMany_agree h ha | cases h
theorem bindT_else {tg : Tgt} {y : V} {ρ ρ₁ : Loc} (h : bindT tg y ρ = some ρ₁) {j : Nat} (hj : j ∉ tg.ids) : ρ₁ j = ρ j := by
  cases tg with
  | one i => simp only [bindT] at h; cases h; simp [Tgt.ids] at hj; simp [Loc.set, hj]
  | many is => cases y <;> simp only [bindT] at h <;> first | exact bindMany_else h j hj | cases h

/-- the names of a comprehension's block, as its env has them -/
noncomputable def relab (names : List (Str × NameKind)) (kd : Str → Option NameKind) : List (Str × NameKind) := names.map fun (m, k) => if (k == .free && kd m == some .cell) then (m, .cell) else (m, k)
noncomputable def kdIn (scope : Scope) (kd : Str → Option NameKind) : Str → Option NameKind := fun x => (relab scope.names kd).lookup x

theorem kdIn_eq {scope : Scope} {cl : List (Str × Addr)} {C : Addr} (hk : env.kindOf = kd) (hf : env.scope.kind = .function) : (compEnvC scope cl C env).kindOf = kdIn scope kd := by
  funext x
  show (relabel scope env).names.lookup x = _
  unfold relabel kdIn relab
  have e : (ScopeKind.function == ScopeKind.function) = true := rfl
  simp only [hf, hk, e, Bool.and_true]

theorem kdIn_look {scope : Scope} {x : Str} : ∀ {k : NameKind}, kdIn scope kd x = some k → scope.names.lookup x = some k ∨ (k = .cell ∧ scope.names.lookup x = some .free) := by
  unfold kdIn relab
  intro k
  generalize scope.names = names
  induction names with
  | nil => intro h; simp at h
  | cons p r ih =>
    obtain ⟨m, k'⟩ := p
    intro h
    simp only [List.map_cons] at h
    by_cases hx : (x == m) = true
    · by_cases hc : (k' == .free && kd m == some .cell) = true
      · rw [if_pos hc] at h
        simp only [List.lookup_cons, hx] at h ⊢
        cases h
        simp only [Bool.and_eq_true, beq_iff_eq] at hc
        right; exact ⟨rfl, by rw [hc.1]⟩
      · rw [if_neg hc] at h
        simp only [List.lookup_cons, hx] at h ⊢
        left; exact h
    · by_cases hc : (k' == .free && kd m == some .cell) = true
      · rw [if_pos hc] at h; simp only [List.lookup_cons, hx] at h ⊢; exact ih h
      · rw [if_neg hc] at h; simp only [List.lookup_cons, hx] at h ⊢; exact ih h

/-- what must hold of a comprehension's block -/
structure CompOK (vars : List Str) (kd : Str → Option NameKind) (scope : Scope) (tg : Tgt) : Prop where
  kind : scope.kind = .function
  nodup : (scope.names.map (·.1)).Nodup
  nocell : ∀ y ∈ scope.names, y.2 ≠ .cell
  free : ∀ y ∈ scope.names, y.2 = .free → kd y.1 = some .cell ∨ kd y.1 = some .free
  ids : ∀ i ∈ tg.ids, ∃ x, vars[i]? = some x ∧ scope.names.lookup x = some .local
  loc : ∀ (i : Nat) x, vars[i]? = some x → scope.names.lookup x = some .local → i ∈ tg.ids

theorem lookup_mem {α : Type} : ∀ {l : List (Str × α)} {x : Str} {a : α}, l.lookup x = some a → (x, a) ∈ l := fun h => mem_of_lookup h
theorem lookup_of_mem' {α : Type} : ∀ {l : List (Str × α)} {x : Str} {a : α}, (l.map (·.1)).Nodup → (x, a) ∈ l → l.lookup x = some a
  | (k, v) :: r, x, a, hn, hm => by
    simp only [List.map_cons, List.nodup_cons] at hn
    rw [List.lookup_cons]
    rcases List.mem_cons.mp hm with e | hm
    · cases e; simp
    · have : x ≠ k := fun e => hn.1 (e ▸ List.mem_map.mpr ⟨_, hm, rfl⟩)
      have hb : (x == k) = false := by simpa using this
      simp only [hb]; exact lookup_of_mem' hn.2 hm

/-- the cells that a comprehension's block is given -/
noncomputable def closOf (cells : List (Str × Addr)) : List (Str × NameKind) → List (Str × Addr) → List (Str × Addr)
  | [], acc => acc
  | (m, k) :: r, acc => closOf cells r (if k == .free then (m, (cells.lookup m).getD 0) :: acc else acc)
theorem clos_eq {scope : Scope} (h : ∀ y ∈ scope.names, y.2 = .free → ∃ c, env.cells.lookup y.1 = some c) : closureFor scope env = pure (closOf env.cells scope.names []) := by
  have key : ∀ (names : List (Str × NameKind)) (acc : List (Str × Addr)), (∀ y ∈ names, y.2 = .free → ∃ c, env.cells.lookup y.1 = some c) →
      (forIn (m := Sem) names acc fun (x : Str × NameKind) r => if (x.2 == .free) = true then do let c ← cellOf env x.1; pure (ForInStep.yield ((x.1, c) :: r)) else pure (ForInStep.yield r)) = pure (closOf env.cells names acc) := by
    intro names
    induction names with
    | nil => intro acc _; rfl
    | cons y r ih =>
      intro acc hy
      obtain ⟨m, k⟩ := y
      rw [List.forIn_cons]
      unfold closOf
      have ih' := fun acc => ih acc fun y hm hf => hy y (List.mem_cons_of_mem _ hm) hf
      by_cases hk : (k == .free) = true
      · obtain ⟨c, hc⟩ := hy (m, k) (.head _) (by simpa using hk)
        simp only [hk, if_true]
        have e1 : cellOf env m = pure c := by unfold cellOf; rw [hc]
        rw [e1, hc]
        exact ih' _
      · simp only [hk]
        exact ih' _
  unfold closureFor
  exact (by
    have := key scope.names [] h
    simpa using this)
theorem clos_look {cells : List (Str × Addr)} : ∀ {names : List (Str × NameKind)} {acc : List (Str × Addr)} {x : Str} {c : Addr}, (closOf cells names acc).lookup x = some c → acc.lookup x = some c ∨ ((x, NameKind.free) ∈ names ∧ c = (cells.lookup x).getD 0)
  | [], _, _, _, h => .inl h
  | (m, k) :: r, acc, x, c, h => by
    unfold closOf at h
    rcases clos_look h with h | ⟨h1, h2⟩
    · by_cases hk : (k == .free) = true
      · rw [if_pos hk] at h
        rw [List.lookup_cons] at h
        by_cases hx : (x == m) = true
        · simp only [hx] at h; cases h
          right
          have := beq_iff_eq.mp hk; have hx' := beq_iff_eq.mp hx
          subst this; subst hx'
          exact ⟨.head _, rfl⟩
        · simp only [hx] at h; exact .inl h
      · rw [if_neg hk] at h; exact .inl h
    · exact .inr ⟨List.mem_cons_of_mem _ h1, h2⟩
theorem clos_has {cells : List (Str × Addr)} : ∀ {names : List (Str × NameKind)} {acc : List (Str × Addr)} {x : Str}, ((x, NameKind.free) ∈ names ∨ ∃ c, acc.lookup x = some c) → ∃ c, (closOf cells names acc).lookup x = some c
  | [], acc, x, h => by
    rcases h with h | h
    · cases h
    · exact h
  | (m, k) :: r, acc, x, h => by
    unfold closOf
    refine clos_has ?_
    rcases h with h | ⟨c, h⟩
    · rcases List.mem_cons.mp h with e | h
      · cases e
        right
        simp
      · exact .inl h
    · right
      by_cases hk : (k == .free) = true
      · rw [if_pos hk, List.lookup_cons]
        by_cases hx : (x == m) = true
        · simp only [hx]; exact ⟨_, rfl⟩
        · simp only [hx]; exact ⟨c, h⟩
      · rw [if_neg hk]; exact ⟨c, h⟩

/-- the cells of the block, as the function has them -/
theorem clos_sub {scope : Scope} {tg : Tgt} (K : CompOK vars kd scope tg) (hk : env.kindOf = kd) (F : FrameOK B vars env ρ σ s.heap) {x : Str} {c : Addr} (h : (closOf env.cells scope.names []).lookup x = some c) : env.cells.lookup x = some c ∧ scope.names.lookup x = some .free := by
  rcases clos_look h with h | ⟨h1, h2⟩
  · simp at h
  · obtain ⟨c', hc⟩ := F.has x (by rw [hk]; exact K.free _ h1 rfl)
    rw [hc] at h2
    exact ⟨by rw [hc, h2]; rfl, lookup_of_mem' K.nodup h1⟩
theorem clos_of {scope : Scope} {x : Str} {cells : List (Str × Addr)} (h : scope.names.lookup x = some .free) : ∃ c, (closOf cells scope.names []).lookup x = some c := clos_has (.inl (mem_of_lookup h))

/-- the block of a comprehension is entered -/
theorem enter_comp {scope : Scope} {tg : Tgt} (K : CompOK vars kd scope tg) (hk : env.kindOf = kd) (M : Sim prog w B vars env ρ σ s) {C : Addr} {h' : Heap} {tk : Nat} (hC : s.heap.get? C = none) (hkeep : ∀ b o, s.heap.get? b = some o → h'.get? b = some o) (hns : h'.Ns C fun _ => none) :
    Sim prog w B vars (compEnvC scope (closOf env.cells scope.names []) C env) (fun i => if i ∈ tg.ids then none else ρ i) σ { s with heap := h', toks := tk } := by
  have ht : ∀ a o, s.heap.get? a = some o → tupLike o → h'.get? a = some o := fun a o e _ => hkeep a o e
  have hkd := kdIn_eq (scope := scope) (cl := closOf env.cells scope.names []) (C := C) hk M.frame.kind
  have fr : ∀ x, (kdIn scope kd x = some .cell ∨ kdIn scope kd x = some .free) → scope.names.lookup x = some .free := fun x h => by
    rcases h with h | h
    · rcases kdIn_look h with h | ⟨_, h⟩
      · exact absurd rfl (K.nocell _ (mem_of_lookup h))
      · exact h
    · rcases kdIn_look h with h | ⟨h, _⟩
      · exact h
      · cases h
  refine ⟨M.core.keeps tk hkeep, ⟨⟨_, hns, fun i x v hx hv hl => ?_⟩, fun o e => ?_, fun i x v hx hv hl => ?_, fun x c hc => ?_, fun x y c hx hy => ?_, fun x hx => ?_, fun a ha => ?_, K.kind, M.frame.glob, M.frame.bltn⟩⟩
  · rw [hkd] at hl
    rcases kdIn_look hl with hl | ⟨hl, _⟩
    · rw [if_pos (K.loc i x hx hl)] at hv; cases hv
    · cases hl
  · obtain ⟨o', es, ep, ho, hd, _⟩ := hns
    have e' : h'.get? C = some o := e
    rw [ho] at e'; cases e'
    exact fun z => z.2.1 _ _ hd
  · rw [hkd] at hl
    have hf := fr x hl
    have hvi : ρ i = some v := by
      by_cases z : i ∈ tg.ids
      · rw [if_pos z] at hv; cases hv
      · rw [if_neg z] at hv; exact hv
    obtain ⟨c, u, h1, ⟨o, h2, h3⟩, h4⟩ := M.frame.cell i x v hx hvi (by rw [hk]; exact K.free _ (mem_of_lookup hf) rfl)
    obtain ⟨c', hc'⟩ := clos_of (cells := env.cells) hf
    have := (clos_sub K hk M.frame hc').1
    rw [h1] at this; cases this
    exact ⟨c, u, hc', ⟨o, hkeep _ _ h2, h3⟩, h4.keep ht⟩
  · obtain ⟨h1, _⟩ := clos_sub K hk M.frame hc
    obtain ⟨⟨u, o, h2, h3⟩, h4, h5⟩ := M.frame.cells x c h1
    refine ⟨⟨u, o, hkeep _ _ h2, h3⟩, fun z => ?_, fun o' e => ?_⟩
    · have z' : c = C := z
      rw [z', hC] at h2; cases h2
    · rw [hkeep _ _ h2] at e; cases e; exact h5 _ h2
  · exact M.frame.inj x y c (clos_sub K hk M.frame hx).1 (clos_sub K hk M.frame hy).1
  · rw [hkd] at hx; exact clos_of (fr x hx)
  · rcases ha with rfl | ⟨x, hx⟩
    · exact M.core.free hC
    · exact M.frame.own a (.inr ⟨x, (clos_sub K hk M.frame hx).1⟩)

/-- back from the block: the function's own frame stands -/
theorem leave_comp {scope : Scope} {tg : Tgt} {ρc : Loc} {C : Addr} {W : Addr → Prop} {s₁ s₂ : Shared} {σ₂ : Store} (K : CompOK vars kd scope tg) (hk : env.kindOf = kd) (M : Sim prog w B vars env ρ σ s₁) (hC : s₁.heap.get? C = none)
    (M' : Sim prog w B vars (compEnvC scope (closOf env.cells scope.names []) C env) ρc σ₂ s₂) (hρ : ∀ j, j ∉ tg.ids → ρc j = ρ j)
    (T : Step (fun a => Own (compEnvC scope (closOf env.cells scope.names []) C env) a ∨ W a) σ s₁ σ₂ s₂) (hW : ∀ a o, W a → s₁.heap.get? a = some o → False) : Sim prog w B vars env ρ σ₂ s₂ ∧ Step (Own env) σ s₁ σ₂ s₂ := by
  have sub : ∀ a, Own (compEnvC scope (closOf env.cells scope.names []) C env) a → a = C ∨ ∃ x, env.cells.lookup x = some a ∧ scope.names.lookup x = some .free ∧ (closOf env.cells scope.names []).lookup x = some a := fun a ha => by
    rcases ha with rfl | ⟨x, hx⟩
    · exact .inl rfl
    · exact .inr ⟨x, (clos_sub K hk M.frame hx).1, (clos_sub K hk M.frame hx).2, hx⟩
  have T' : Step (Own env) σ s₁ σ₂ s₂ := T.less fun a o e ha => by
    rcases ha with ha | ha
    · rcases sub a ha with rfl | ⟨x, hx, _⟩
      · rw [hC] at e; cases e
      · exact .inr ⟨x, hx⟩
    · exact (hW a o ha e).elim
  have ht := T'.tups M.core M.frame.notTup
  have hkd := kdIn_eq (scope := scope) (cl := closOf env.cells scope.names []) (C := C) hk M.frame.kind
  -- what is not the block's own
  have kept : ∀ a o, s₁.heap.get? a = some o → Own env a → ¬ Own (compEnvC scope (closOf env.cells scope.names []) C env) a → s₂.heap.get? a = some o := fun a o e ha hn =>
    T.keep a o e (.of_none (M.frame.own a ha).1) fun z => z.elim hn fun z => hW a o z e
  have hL : ¬ Own (compEnvC scope (closOf env.cells scope.names []) C env) env.locals := fun z => by
    obtain ⟨o, e⟩ := M.frame.exists (.inl rfl : Own env env.locals)
    rcases sub _ z with z | ⟨x, hx, _⟩
    · rw [z, hC] at e; cases e
    · exact (M.frame.cells x _ hx).2.1 rfl
  have cellCase : ∀ x c, env.cells.lookup x = some c → (scope.names.lookup x = some .free ∧ (closOf env.cells scope.names []).lookup x = some c) ∨ ¬ Own (compEnvC scope (closOf env.cells scope.names []) C env) c := fun x c hx => by
    by_cases z : Own (compEnvC scope (closOf env.cells scope.names []) C env) c
    · left
      rcases sub _ z with z | ⟨y, h1, h2, h3⟩
      · obtain ⟨⟨u, o, e, _⟩, _⟩ := M.frame.cells x c hx
        rw [z, hC] at e; cases e
      · have := M.frame.inj x y c hx h1
        subst this; exact ⟨h2, h3⟩
    · exact .inr z
  have notloc : ∀ (i : Nat) x, vars[i]? = some x → scope.names.lookup x = some .free → i ∉ tg.ids := fun i x hx hf z => by
    obtain ⟨y, h1, h2⟩ := K.ids i z
    rw [hx] at h1; cases h1; rw [hf] at h2; cases h2
  have kdfree : ∀ x, scope.names.lookup x = some .free → kdIn scope kd x = some .cell ∨ kdIn scope kd x = some .free := fun x h => by
    unfold kdIn relab
    revert h
    generalize scope.names = names
    induction names with
    | nil => intro h; simp at h
    | cons p r ih =>
      obtain ⟨m, k'⟩ := p
      intro h
      simp only [List.map_cons]
      by_cases hx : (x == m) = true
      · simp only [List.lookup_cons, hx] at h; cases h
        split
        · left; simp only [List.lookup_cons, hx]
        · right; simp only [List.lookup_cons, hx]
      · simp only [List.lookup_cons, hx] at h
        split <;> (simp only [List.lookup_cons, hx]; exact ih h)
  refine ⟨⟨M'.core, ⟨?_, fun o e => ?_, fun i x v hx hv hl => ?_, fun x c hc => ?_, M.frame.inj, M.frame.has, fun a ha => ?_, M.frame.kind, M.frame.glob, M.frame.bltn⟩⟩, T'⟩
  · obtain ⟨m, ⟨o, es, ep, ho, r⟩, hm⟩ := M.frame.ns
    refine ⟨m, ⟨o, es, ep, kept _ _ ho (.inl rfl) hL, r⟩, fun i x v hx hv hl => ?_⟩
    obtain ⟨u, h1, h2⟩ := hm i x v hx hv hl
    exact ⟨u, h1, h2.keep ht⟩
  · obtain ⟨m, ⟨o', es, ep, ho, r⟩, hm⟩ := M.frame.ns
    rw [kept _ _ ho (.inl rfl) hL] at e; cases e; exact M.frame.nsObj _ ho
  · obtain ⟨c, u, h1, ⟨o, h2, h3⟩, h4⟩ := M.frame.cell i x v hx hv hl
    rcases cellCase x c h1 with ⟨hf, hc⟩ | hn
    · obtain ⟨c', u', k1, k2, k3⟩ := M'.frame.cell i x v hx (by rw [hρ i (notloc i x hx hf)]; exact hv) (by rw [hkd]; exact kdfree x hf)
      have k1' : (closOf env.cells scope.names []).lookup x = some c' := k1
      rw [hc] at k1'; cases k1'
      exact ⟨c, u', h1, k2, k3⟩
    · exact ⟨c, u, h1, ⟨o, kept _ _ h2 (.inr ⟨x, h1⟩) hn, h3⟩, h4.keep ht⟩
  · obtain ⟨⟨u, o, h2, h3⟩, h4, h5⟩ := M.frame.cells x c hc
    rcases cellCase x c hc with ⟨hf, hcl⟩ | hn
    · obtain ⟨a, _, b⟩ := M'.frame.cells x c hcl
      exact ⟨a, h4, b⟩
    · refine ⟨⟨u, o, kept _ _ h2 (.inr ⟨x, hc⟩) hn, h3⟩, h4, fun o' e => ?_⟩
      rw [kept _ _ h2 (.inr ⟨x, hc⟩) hn] at e; cases e; exact h5 _ h2
  · refine ⟨?_, (M.frame.own a ha).2⟩
    by_cases z : Own (compEnvC scope (closOf env.cells scope.names []) C env) a
    · exact (M'.frame.own a z).1
    · obtain ⟨o, e⟩ := M.frame.exists ha
      exact T.no a o e (M.frame.own a ha).1 fun y => y.elim z fun y => hW a o y e
end
end Mine

namespace Mine
open PySem PyProof.Rows

section
variable {prog : Program} {w : World} {B : Shared} {vars : List Str} {S : Spec} {n : Nat} {G : Gl} {kd : Str → Option NameKind} {env : Env} {ρ ρ' : Loc} {σ σ₁ σ' : Store} {s s₁ s' : Shared} {A : Around}

/-- the list that a comprehension fills -/
structure AccOK (B : Shared) (env : Env) (D : Addr) (σ : Store) (h : Heap) (l : List V) (k : Nat) : Prop where
  s : σ D = none
  b : B.heap.get? D = none
  o : ¬ Own env D
  p : ∃ vs : Array Value, h.PlainList D vs ∧ VRels h l vs.toList ∧ vs.size ≤ k

theorem plain_notTup {h : Heap} {D : Addr} {vs : Array Value} (p : h.PlainList D vs) : ∀ o, h.get? D = some o → ¬ tupLike o := fun o e => by
  obtain ⟨m, g⟩ := p
  rw [g] at e; cases e; unfold tupLike; simp
theorem AccOK.kept {D : Addr} {h h' : Heap} {l : List V} {k : Nat} (C : AccOK B env D σ h l k) (hk : ∀ o, h.get? D = some o → h'.get? D = some o) (ht : ∀ a o, h.get? a = some o → tupLike o → h'.get? a = some o) (hs : σ' D = none) : AccOK B env D σ' h' l k :=
  ⟨hs, C.b, C.o, let ⟨vs, a, b, c⟩ := C.p; ⟨vs, a.at hk, b.keep ht, c⟩⟩
theorem AccOK.step {D : Addr} {l : List V} {k : Nat} (C : AccOK B env D σ s.heap l k) (M : Sim prog w B vars env ρ σ s) (T : Step (Own env) σ s σ' s') : AccOK B env D σ' s'.heap l k := by
  obtain ⟨vs, ⟨m, g⟩, _, _⟩ := C.p
  exact C.kept (fun o e => T.keep D o e (.of_none C.s) C.o) (T.tups M.core M.frame.notTup) (T.no D _ g C.s C.o)

theorem comp_run {cenv : Env} {I D : Addr} {items : List V} {ok : Store → Prop} {St : Nat → Heap → Prop} {target elt iter : Expr} {ifs : List Expr} {scope : Scope} {pos : Pos} {tg : Tgt} {cnd : V → Store → (Bool → Store → Prop) → Prop} {el : V → Store → Post → Prop}
    {K : List V → Store → Prop} {kc : Str → Option NameKind} {ρc : Loc} (J : Iter prog w B I [I] [I] items ok St) (g : Good A n) (hk : cenv.kindOf = kc) (ht : SoundT prog w B vars kc target tg) (hz : items.length ≤ 1000000)
    (htest : ∀ ρ₁ σ s Q y, bindT tg y ρ = some ρ₁ → Sim prog w B vars cenv ρ₁ σ s → cnd y σ Q →
      wpAny (model prog w) A (forIn ifs true fun c r => if r = true then do let ok ← isTrue c cenv (eval c cenv); pure (ForInStep.yield ok) else pure (ForInStep.yield r)) (GotB prog w B vars cenv ρ₁ σ s Q) (fun _ _ => False) s)
    (helt : ∀ ρ₁ σ s Q y, bindT tg y ρ = some ρ₁ → Sim prog w B vars cenv ρ₁ σ s → el y σ Q → wpAny (model prog w) A (eval elt cenv) (Got prog w B vars cenv ρ₁ σ s Q) (fun _ _ => False) s)
    (hbind : ∀ y σ Q, cnd y σ Q → ∃ ρ₁, bindT tg y ρ = some ρ₁)
    (M : Sim prog w B vars cenv ρc σ s) (hρ : ∀ j, j ∉ tg.ids → ρc j = ρ j) (st : St 0 s.heap) (L : LooseOK B cenv [I] [I] σ s) (C : AccOK B cenv D σ s.heap [] 0) (hDI : D ≠ I) (q : compW ok cnd el items [] σ K) {R : Result → Shared → Prop}
    (hR : ∀ ρe σe l se, Sim prog w B vars cenv ρe σe se → (∀ j, j ∉ tg.ids → ρe j = ρ j) → AccOK B cenv D σe se.heap l 1000000 → Step (fun a => Own cenv a ∨ (a = I ∨ a = D)) σ s σe se → K l σe → R (.ok .next) se) :
    codeAny (model prog w) A (.compLoop (.ListComp elt [⟨target, iter, ifs, 0⟩] scope pos) 0 (.ref I) (.ref D) cenv) R s := by
  refine compLoop_own (fun m s' => ∃ k ρ' σ' l, m = items.length + 1 - k ∧ k ≤ items.length ∧ Sim prog w B vars cenv ρ' σ' s' ∧ (∀ j, j ∉ tg.ids → ρ' j = ρ j) ∧ St k s'.heap ∧ LooseOK B cenv [I] [I] σ' s' ∧ AccOK B cenv D σ' s'.heap l k ∧
    Step (fun a => Own cenv a ∨ (a = I ∨ a = D)) σ s σ' s' ∧ compW ok cnd el (items.drop k) l σ' K) ?_ (items.length + 1) ⟨0, ρc, σ, [], rfl, Nat.zero_le _, M, hρ, st, L, C, .refl, by simpa using q⟩
  rintro m s₀ ⟨k, ρ₀, σ₀, l, rfl, hkl, M₀, hρ₀, st₀, L₀, C₀, T₀, q₀⟩
  have lift : ∀ {σa σb : Store} {sa sb : Shared}, Step (Own cenv) σa sa σb sb → Step (fun a => Own cenv a ∨ (a = I ∨ a = D)) σa sa σb sb := fun T => T.more fun _ z => .inl z
  by_cases hlt : k < items.length
  · have hx : items[k]? = some items[k] := List.getElem?_eq_getElem hlt
    rw [List.drop_eq_getElem_cons hlt] at q₀
    simp only [compW] at q₀
    obtain ⟨hok, q₁⟩ := q₀
    obtain ⟨ρ₁, hρ₁⟩ := hbind _ _ _ q₁
    have hb₀ : bindT tg items[k] ρ₀ = some ρ₁ := bindT_agree hρ₁ fun j hj => (hρ₀ j hj).symm
    have hag : ∀ j, j ∉ tg.ids → ρ₁ j = ρ j := fun j hj => bindT_else hρ₁ hj
    refine J.next A k items[k] σ₀ s₀ _ _ g.hd hx st₀ M₀.core hok fun v h₁ tk₁ rv st₁ hk₁ => ?_
    have M₁ := J.moved L₀ M₀ st₀ tk₁ hk₁
    have T₁ : Step (fun a => Own cenv a ∨ (a = I ∨ a = D)) σ₀ s₀ σ₀ { s₀ with heap := h₁, toks := tk₁ } := Step.move fun b o hb e => hk₁ b o (fun z => hb (.inr (.inl (by simpa using z)))) e
    have L₁ : LooseOK B cenv [I] [I] σ₀ { s₀ with heap := h₁, toks := tk₁ } := ⟨L₀.w, L₀.f⟩
    have C₁ : AccOK B cenv D σ₀ h₁ l k := C₀.kept (fun o e => hk₁ D o (by simpa using hDI) e) (fun a o e htl => hk₁ a o (fun z => J.loose k _ a o st₀ z e htl) e) C₀.s
    refine J.owned A k v target _ _ _ st₁ fun h₂ tk₂ st₂ hk₂ => ?_
    have M₂ := J.moved L₁ M₁ st₁ tk₂ hk₂
    have T₂ : Step (fun a => Own cenv a ∨ (a = I ∨ a = D)) σ₀ { s₀ with heap := h₁, toks := tk₁ } σ₀ { s₀ with heap := h₂, toks := tk₂ } := Step.move fun b o hb e => hk₂ b o (fun z => hb (.inr (.inl (by simpa using z)))) e
    have rv₂ : VRel h₂ items[k] v := rv.keep fun c o e htl => hk₂ c o (fun z => J.loose (k + 1) _ c o st₁ z e htl) e
    have C₂ : AccOK B cenv D σ₀ h₂ l k := C₁.kept (fun o e => hk₂ D o (by simpa using hDI) e) (fun a o e htl => hk₂ a o (fun z => J.loose (k + 1) _ a o st₁ z e htl) e) C₀.s
    refine ht cenv A ρ₀ ρ₁ σ₀ _ _ v _ _ hk g.hd M₂ rv₂ hb₀ fun h₃ tk₃ M₃ hk₃ => ?_
    have T₃ : Step (Own cenv) σ₀ { s₀ with heap := h₂, toks := tk₂ } σ₀ { s₀ with heap := h₃, toks := tk₃ } := Step.move hk₃
    have st₃ : St (k + 1) h₃ := J.frame _ _ _ st₂ fun b hb o e => hk₃ b o (L₀.f b hb).2 e
    have C₃ : AccOK B cenv D σ₀ h₃ l k := C₂.step M₂ T₃
    have L₃ : LooseOK B cenv [I] [I] σ₀ { s₀ with heap := h₃, toks := tk₃ } := ⟨L₀.w, L₀.f⟩
    refine wpAny_mono (htest ρ₁ σ₀ _ _ _ hρ₁ M₃ q₁) (fun b s₄ h₄ => ?_) fun _ _ x => x
    obtain ⟨σ₄, M₄, T₄, q₄⟩ := h₄
    have st₄ : St (k + 1) s₄.heap := J.frame _ _ _ st₃ fun b hb o e => T₄.keep b o e (L₀.f b hb).1 (L₀.f b hb).2
    have C₄ : AccOK B cenv D σ₄ s₄.heap l k := C₃.step M₃ T₄
    have L₄ : LooseOK B cenv [I] [I] σ₄ s₄ := L₃.step J.sub (fun b hb => J.live _ _ b st₃ hb) T₄
    have TT₄ : Step (fun a => Own cenv a ∨ (a = I ∨ a = D)) σ s σ₄ s₄ := (T₀.trans (T₁.trans T₂)).trans ((lift T₃).trans (lift T₄))
    cases b with
    | false => exact ⟨items.length + 1 - (k + 1), by omega, k + 1, ρ₁, σ₄, l, rfl, hlt, M₄, hag, st₄, L₄, ⟨C₄.s, C₄.b, C₄.o, let ⟨vs, a, b, c⟩ := C₄.p; ⟨vs, a, b, by omega⟩⟩, TT₄, q₄⟩
    | true =>
      refine wpAny_mono (helt ρ₁ σ₄ s₄ _ _ hρ₁ M₄ q₄) (fun x s₅ h₅ => ?_) fun _ _ x => x
      obtain ⟨y, σ₅, ry, M₅, T₅, q₅⟩ := h₅
      have st₅ : St (k + 1) s₅.heap := J.frame _ _ _ st₄ fun b hb o e => T₅.keep b o e (L₄.f b hb).1 (L₄.f b hb).2
      have C₅ : AccOK B cenv D σ₅ s₅.heap l k := C₄.step M₄ T₅
      have L₅ : LooseOK B cenv [I] [I] σ₅ s₅ := L₄.step J.sub (fun b hb => J.live _ _ b st₄ hb) T₅
      obtain ⟨vs, hp, hr, hvs⟩ := C₅.p
      refine wpAny_list_append_plain hp (fun h₆ hp₆ hs₆ => ?_) (by rw [sizeLine_eq]; omega)
      have hk₆ : ∀ b o, ¬ (b = D) → s₅.heap.get? b = some o → h₆.get? b = some o := fun b o hb e => hs₆.extBut b o hb e
      have M₆ := M₅.move (· = D) s₅.toks hk₆ fun a ha => by subst ha; exact ⟨C₅.s, C₅.b, C₅.o, plain_notTup hp⟩
      have T₆ : Step (fun a => Own cenv a ∨ (a = I ∨ a = D)) σ₅ s₅ σ₅ { s₅ with heap := h₆ } := Step.move (tk := s₅.toks) fun b o hb e => hk₆ b o (fun z => hb (.inr (.inr z))) e
      have ht₆ : ∀ a o, s₅.heap.get? a = some o → tupLike o → h₆.get? a = some o := fun a o e htl => hk₆ a o (fun z => by subst z; exact plain_notTup hp o e htl) e
      refine ⟨items.length + 1 - (k + 1), by omega, k + 1, ρ₁, σ₅, l ++ [y], rfl, hlt, M₆, hag, J.frame _ _ _ st₅ fun b hb o e => hk₆ b o (by simp at hb; subst hb; exact Ne.symm hDI) e, ⟨L₅.w, L₅.f⟩,
        ⟨C₅.s, C₅.b, C₅.o, vs.push x, hp₆, by rw [Array.toList_push]; exact (hr.keep ht₆).append (.one (ry.keep ht₆)), by simp; omega⟩, (TT₄.trans (lift T₅)).trans T₆, q₅⟩
  · have hke : k = items.length := by omega
    subst hke
    rw [List.drop_length] at q₀
    simp only [compW] at q₀
    refine J.done A σ₀ s₀ _ _ g.hd st₀ M₀.core q₀.1 fun h₁ tk₁ hk₁ => ?_
    have M₁ := J.moved L₀ M₀ st₀ tk₁ hk₁
    have T₁ : Step (fun a => Own cenv a ∨ (a = I ∨ a = D)) σ₀ s₀ σ₀ { s₀ with heap := h₁, toks := tk₁ } := Step.move fun b o hb e => hk₁ b o (fun z => hb (.inr (.inl (by simpa using z)))) e
    have C₁ : AccOK B cenv D σ₀ h₁ l items.length := C₀.kept (fun o e => hk₁ D o (by simpa using hDI) e) (fun a o e htl => hk₁ a o (fun z => J.loose _ _ a o st₀ z e htl) e) C₀.s
    exact hR ρ₀ σ₀ l _ M₁ hρ₀ ⟨C₁.s, C₁.b, C₁.o, let ⟨vs, a, b, c⟩ := C₁.p; ⟨vs, a, b, by omega⟩⟩ (T₀.trans T₁) q₀.2

/-- a comprehension from its source on -/
theorem comp_core {x : V} {v : Value} {items : List V} {ok : Store → Prop} {target elt iter : Expr} {ifs : List Expr} {scope : Scope} {pos : Pos} {tg : Tgt} {cnd : V → Store → (Bool → Store → Prop) → Prop} {el : V → Store → Post → Prop}
    {K : List V → Store → Prop} (KK : CompOK vars kd scope tg) (g : Good A n) (hk : env.kindOf = kd) (ht : SoundT prog w B vars (kdIn scope kd) target tg) (hz : items.length ≤ 1000000)
    (htest : ∀ (cenv : Env) ρ₁ σ s Q y, cenv.kindOf = kdIn scope kd → bindT tg y ρ = some ρ₁ → Sim prog w B vars cenv ρ₁ σ s → cnd y σ Q →
      wpAny (model prog w) A (forIn ifs true fun c r => if r = true then do let ok ← isTrue c cenv (eval c cenv); pure (ForInStep.yield ok) else pure (ForInStep.yield r)) (GotB prog w B vars cenv ρ₁ σ s Q) (fun _ _ => False) s)
    (helt : ∀ (cenv : Env) ρ₁ σ s Q y, cenv.kindOf = kdIn scope kd → bindT tg y ρ = some ρ₁ → Sim prog w B vars cenv ρ₁ σ s → el y σ Q → wpAny (model prog w) A (eval elt cenv) (Got prog w B vars cenv ρ₁ σ s Q) (fun _ _ => False) s)
    (hbind : ∀ y σ Q, cnd y σ Q → ∃ ρ₁, bindT tg y ρ = some ρ₁)
    (M : Sim prog w B vars env ρ σ s) (rv : VRel s.heap x v) (hsrc : Src σ x items ok) (q : compW ok cnd el items [] σ K) {RR : Value → Addr → Result → Shared → Prop}
    (hRR : ∀ D C m l σe se, s.heap.get? C = none → se.heap.Ns C m → σe D = none → Sim prog w B vars env ρ (σe.set D (.list true l)) se → Step (Own env) σ s (σe.set D (.list true l)) se → (σe.set D (.list true l)) C = none → B.heap.get? C = none → ¬ Own env C → K l σe → RR (.ref D) C (.ok .next) se) :
    wpAny (model prog w) A (pyIter v) (fun it s₂ => wpAny (model prog w) A (newList []) (fun acc s₃ => wpAny (model prog w) A (newFunctionEnv scope env.globals (closOf env.cells scope.names []) [] env.qual none .none (some env)) (fun cenv s₄ =>
      codeAny (model prog w) A (.compStart (.ListComp elt [⟨target, iter, ifs, 0⟩] scope pos) 0 it acc { cenv with scope := relabel scope env }) (RR acc cenv.locals) s₄) (fun _ _ => False) s₃) (fun _ _ => False) s₂) (fun _ _ => False) s := by
  refine src_iter M.core rv hsrc fun I St h₁ tk₁ hI J st₁ hk₁ hIo hok => ?_
  refine wpAny_newList (wpAny_newFunctionEnv KK.nocell (by intro y hy; simp at hy) (fun h₃ hns₃ hsb₃ => ?_) KK.kind)
  dsimp only at hns₃ hsb₃ ⊢
  generalize hH2 : h₁.push { cls := .type "list", dict := none, data := .seq ([] : List Value).toArray } = H2 at hns₃ hsb₃ ⊢
  have hC2 : H2.objs.size = h₁.objs.size + 1 := by rw [← hH2, Heap.size_push]
  have hDh1 : h₁.get? h₁.objs.size = none := get_size h₁
  have up2 : ∀ b o, h₁.get? b = some o → H2.get? b = some o := fun b o e => hH2 ▸ Heap.get?_push_of_some _ e
  have hCh2 : H2.get? H2.objs.size = none := get_size H2
  have up3 : ∀ b o, H2.get? b = some o → h₃.get? b = some o := fun b o e => hsb₃.extBut b o (Nat.ne_of_lt (Heap.lt_size e)) (Heap.get?_push_of_some _ e)
  have up : ∀ b o, s.heap.get? b = some o → h₃.get? b = some o := fun b o e => up3 b o (up2 b o (hk₁ b o e))
  have hD2 : H2.get? h₁.objs.size = some { cls := .type "list", data := .seq #[] } := by rw [← hH2]; exact Heap.get?_push_size _ rfl
  have hD3 := up3 _ _ hD2
  have none_of : ∀ a, (∀ b o, s.heap.get? b = some o → ∃ o', h₁.get? b = some o') → h₁.get? a = none → s.heap.get? a = none := fun a h e => by
    cases q : s.heap.get? a with
    | none => rfl
    | some o => obtain ⟨o', h'⟩ := h a o q; rw [h'] at e; cases e
  have hDs : s.heap.get? h₁.objs.size = none := none_of _ (fun b o e => ⟨o, hk₁ b o e⟩) hDh1
  have hCs : s.heap.get? H2.objs.size = none := by
    cases q : s.heap.get? H2.objs.size with
    | none => rfl
    | some o => have := up2 _ _ (hk₁ _ _ q); rw [hCh2] at this; cases this
  have hDC : h₁.objs.size ≠ H2.objs.size := by rw [hC2]; exact Nat.ne_of_lt (Nat.lt_succ_self _)
  obtain ⟨oI, hIh⟩ := hIo
  have hDI : h₁.objs.size ≠ I := fun z => by rw [z, hIh] at hDh1; cases hDh1
  have hIC : I ≠ H2.objs.size := fun z => by have := up2 _ _ hIh; rw [z, hCh2] at this; cases this
  have M3 := enter_comp (h' := h₃) (tk := tk₁) KK hk M hCs up (by simpa using hns₃)
  have hkd := kdIn_eq (scope := scope) (cl := closOf env.cells scope.names []) (C := H2.objs.size) hk M.frame.kind
  have notOwn : ∀ a, s.heap.get? a = none → a ≠ H2.objs.size → ¬ Own (compEnvC scope (closOf env.cells scope.names []) H2.objs.size env) a := fun a ha hne z => by
    rcases z with z | ⟨x, hx⟩
    · exact hne z
    · obtain ⟨o, e⟩ := M.frame.exists (.inr ⟨x, (clos_sub KK hk M.frame hx).1⟩ : Own env a)
      rw [ha] at e; cases e
  have st3 : St 0 h₃ := J.frame _ _ _ st₁ fun b hb o e => up3 b o (up2 b o e)
  have L3 : LooseOK B (compEnvC scope (closOf env.cells scope.names []) H2.objs.size env) [I] [I] σ { s with heap := h₃, toks := tk₁ } :=
    ⟨fun b hb => by simp at hb; subst hb; exact M.core.free hI, fun b hb => by simp at hb; subst hb; exact ⟨.of_none (M.core.free hI).1, notOwn _ hI hIC⟩⟩
  have C3 : AccOK B (compEnvC scope (closOf env.cells scope.names []) H2.objs.size env) h₁.objs.size σ h₃ [] 0 :=
    ⟨(M.core.free hDs).1, (M.core.free hDs).2, notOwn _ hDs hDC, #[], ⟨0, hD3⟩, .nil, by simp⟩
  have loop : codeAny (model prog w) A (.compLoop (.ListComp elt [⟨target, iter, ifs, 0⟩] scope pos) 0 (.ref I) (.ref h₁.objs.size) (compEnvC scope (closOf env.cells scope.names []) H2.objs.size env)) (RR (.ref h₁.objs.size) H2.objs.size) { s with heap := h₃, toks := tk₁ } := by
    refine comp_run (ρ := ρ) J g hkd ht hz (fun ρ₁ σ s Q y => htest _ ρ₁ σ s Q y hkd) (fun ρ₁ σ s Q y => helt _ ρ₁ σ s Q y hkd) hbind M3 (fun j hj => by simp [hj]) st3 L3 C3 hDI q ?_
    intro ρe σe l se Me hag Ce Te kl
    obtain ⟨m, hm, _⟩ := Me.frame.ns
    have T0 : Step (fun a => Own (compEnvC scope (closOf env.cells scope.names []) H2.objs.size env) a ∨ (a = I ∨ a = h₁.objs.size)) σ s σ { s with heap := h₃, toks := tk₁ } := Step.keeps up
    obtain ⟨Mo, To⟩ := leave_comp KK hk M hCs Me hag (T0.trans Te) fun a o ha e => by
      rcases ha with rfl | rfl
      · rw [hI] at e; cases e
      · rw [hDs] at e; cases e
    obtain ⟨vs, hp, hr, hvs⟩ := Ce.p
    have hoD : ¬ Own env h₁.objs.size := fun z => by obtain ⟨o, e⟩ := M.frame.exists z; rw [hDs] at e; cases e
    have hoC : ¬ Own env H2.objs.size := fun z => by obtain ⟨o, e⟩ := M.frame.exists z; rw [hCs] at e; cases e
    have Ma := Mo.adopt (o' := .list true l) (h' := se.heap) se.toks Ce.s Ce.b hoD (plain_notTup hp) (fun b x _ e => e) ⟨vs, ⟨hp.isList, fun _ => hp⟩, by omega, hr⟩
    have Ta : Step (Own env) σ s (σe.set h₁.objs.size (.list true l)) se := Step.seal (p := h₁.objs.size) ((To.more fun a z => .inl z).trans (Step.adopt (h' := se.heap) (tk := se.toks) fun b x _ e => e)) hDs
    exact hRR h₁.objs.size H2.objs.size m l σe se hCs hm Ce.s Ma Ta (by rw [set_ne (Ne.symm hDC)]; exact (Me.frame.own _ (.inl rfl)).1) (M.core.free hCs).2 hoC kl
  exact codeAny_compStart_list loop (J.self A 0 _ _ _ g.hd st3 loop)
end
end Mine

namespace Mine
open PySem PyProof.Rows

section
variable {prog : Program} {w : World} {B : Shared} {vars : List Str} {S : Spec} {n : Nat} {G : Gl} {kd : Str → Option NameKind} {env : Env} {ρ ρ' : Loc} {σ σ₁ σ' : Store} {s s₁ s' : Shared} {A : Around}

theorem ns_notTup {h : Heap} {C : Addr} {m : Str → Option Value} (hns : h.Ns C m) : ∀ o, h.get? C = some o → ¬ tupLike o := fun o e => by
  obtain ⟨o', es, ep, ho, hd, _⟩ := hns
  rw [ho] at e; cases e
  exact fun z => z.2.1 _ _ hd

/-- the block's names are let go -/
theorem comp_leave {C : Addr} {m : Str → Option Value} {h' : Heap} (M : Sim prog w B vars env ρ σ₁ s₁) (T : Step (Own env) σ s σ₁ s₁) (hC : s.heap.get? C = none) (hns : s₁.heap.Ns C m) (hσ : σ₁ C = none) (hB : B.heap.get? C = none) (hO : ¬ Own env C) (hs : Heap.SameBut C s₁.heap h') :
    Sim prog w B vars env ρ σ₁ { s₁ with heap := h' } ∧ Step (Own env) σ s σ₁ { s₁ with heap := h' } := by
  have hk : ∀ b o, ¬ (b = C) → s₁.heap.get? b = some o → h'.get? b = some o := fun b o hb e => hs.extBut b o hb e
  refine ⟨M.move (· = C) s₁.toks hk fun a ha => by subst ha; exact ⟨hσ, hB, hO, ns_notTup hns⟩, ?_⟩
  exact Step.seal (p := C) ((T.more fun a z => .inl z).trans (Step.move (tk := s₁.toks) fun b o hb e => hk b o (fun z => hb (.inr z)) e)) hC

theorem comp_names {scope : Scope} {tg : Tgt} (KK : CompOK vars kd scope tg) : ∀ x ∈ scope.names, x.2 = .local → scope.names.lookup x.1 = some .local := fun x hx hl => by
  obtain ⟨a, k⟩ := x
  have : k = .local := hl
  subst this
  exact lookup_of_mem' KK.nodup hx

theorem comp_clos {scope : Scope} {tg : Tgt} (KK : CompOK vars kd scope tg) (hk : env.kindOf = kd) (M : Sim prog w B vars env ρ σ s) : closureFor scope env = pure (closOf env.cells scope.names []) :=
  clos_eq fun y hy hf => M.frame.has y.1 (by rw [hk]; exact KK.free y hy hf)

/-- what a comprehension's clause asks -/
structure Clause (prog : Program) (w : World) (B : Shared) (vars : List Str) (n : Nat) (kd : Str → Option NameKind) (scope : Scope) (tg : Tgt) (ifs : List Expr) (elt : Expr) (cnd : Loc → V → Store → (Bool → Store → Prop) → Prop) (el : Loc → V → Store → Post → Prop) : Prop where
  test : ∀ (cenv : Env) A ρ ρ₁ σ s Q y, Good A n → cenv.kindOf = kdIn scope kd → bindT tg y ρ = some ρ₁ → Sim prog w B vars cenv ρ₁ σ s → cnd ρ y σ Q →
      wpAny (model prog w) A (forIn ifs true fun c r => if r = true then do let ok ← isTrue c cenv (eval c cenv); pure (ForInStep.yield ok) else pure (ForInStep.yield r)) (GotB prog w B vars cenv ρ₁ σ s Q) (fun _ _ => False) s
  elt : ∀ (cenv : Env) A ρ ρ₁ σ s Q y, Good A n → cenv.kindOf = kdIn scope kd → bindT tg y ρ = some ρ₁ → Sim prog w B vars cenv ρ₁ σ s → el ρ y σ Q → wpAny (model prog w) A (eval elt cenv) (Got prog w B vars cenv ρ₁ σ s Q) (fun _ _ => False) s
  bind : ∀ ρ y σ Q, cnd ρ y σ Q → ∃ ρ₁, bindT tg y ρ = some ρ₁

noncomputable def compQ (S : Spec) (it : X) (cnd : Loc → V → Store → (Bool → Store → Prop) → Prop) (el : Loc → V → Store → Post → Prop) (ρ : Loc) (σ : Store) (Q : Post) : Prop :=
  wpE S it ρ σ fun vi σ₁ => ∃ items ok, Src σ₁ vi items ok ∧ items.length ≤ 1000000 ∧ compW ok (cnd ρ) (el ρ) items [] σ₁ fun acc σ₂ => fresh σ₂ (.list true acc) Q

theorem comp_ev {elt target iter : Expr} {ifs : List Expr} {scope : Scope} {pos : Pos} {tg : Tgt} {a : X} {cnd : Loc → V → Store → (Bool → Store → Prop) → Prop} {el : Loc → V → Store → Post → Prop} {Q : Post}
    (KK : CompOK vars kd scope tg) (hset : notSet iter = true) (hi : SoundE prog w B vars S n kd iter a) (ht : SoundT prog w B vars (kdIn scope kd) target tg) (CL : Clause prog w B vars n kd scope tg ifs elt cnd el)
    (hk : env.kindOf = kd) (g : Good A n) (M : Sim prog w B vars env ρ σ s) (q : compQ S a cnd el ρ σ Q) :
    wpAny (model prog w) A (eval (.ListComp elt [⟨target, iter, ifs, 0⟩] scope pos) env) (Got prog w B vars env ρ σ s Q) (fun _ _ => False) s := by
  rw [eval_ListComp]
  refine wpAny_comprehension_free (use := none) rfl (folded_no hset) (comp_clos KK hk M) KK.kind (comp_names KK) (wpAny_mono (hi.ev env A ρ σ s _ hk g M q) (fun v s₁ h₁ => ?_) fun _ _ x => x)
  obtain ⟨x, σ₁, rv, M₁, T₁, items, ok, hsrc, hz, q₁⟩ := h₁
  refine comp_core KK g hk ht hz (fun cenv ρ₁ σ s Q y h1 => CL.test cenv A ρ ρ₁ σ s Q y g h1) (fun cenv ρ₁ σ s Q y h1 => CL.elt cenv A ρ ρ₁ σ s Q y g h1) (CL.bind ρ) M₁ rv hsrc q₁ ?_
  intro D C m l σe se hCs hns hDe Ma Ta hCn hCb hCo kl
  refine ⟨m, hns, fun h' hs' => ?_⟩
  obtain ⟨Mf, Tf⟩ := comp_leave Ma Ta hCs hns hCn hCb hCo hs'
  exact ⟨.ref D, _, by simp [VRel], Mf, T₁.trans Tf, kl D hDe⟩

theorem Clause.plain {scope : Scope} {tg : Tgt} {elt : Expr} {b : X} (he : SoundE prog w B vars S n (kdIn scope kd) elt b) :
    Clause prog w B vars n kd scope tg [] elt (fun ρ v σ Q => (∃ ρ', bindT tg v ρ = some ρ') ∧ Q true σ) (fun ρ v σ Q => ∃ ρ', bindT tg v ρ = some ρ' ∧ wpE S b ρ' σ Q) :=
  ⟨fun cenv A ρ ρ₁ σ s Q y _ _ _ M q => wpAny_tests_nil ⟨σ, M, .refl, q.2⟩,
   fun cenv A ρ ρ₁ σ s Q y g hk hb M q => by
    obtain ⟨ρ', h1, h2⟩ := q
    rw [hb] at h1; cases h1
    exact he.ev cenv A _ σ s Q hk g M h2,
   fun ρ y σ Q q => q.1⟩
theorem Clause.test1 {scope : Scope} {tg : Tgt} {elt c : Expr} {b x : X} (hc : SoundE prog w B vars S n (kdIn scope kd) c x) (he : SoundE prog w B vars S n (kdIn scope kd) elt b) :
    Clause prog w B vars n kd scope tg [c] elt (fun ρ v σ Q => ∃ ρ', bindT tg v ρ = some ρ' ∧ wpE S x ρ' σ (asBool Q)) (fun ρ v σ Q => ∃ ρ', bindT tg v ρ = some ρ' ∧ wpE S b ρ' σ Q) :=
  ⟨fun cenv A ρ ρ₁ σ s Q y g hk hb M q => by
    obtain ⟨ρ', h1, h2⟩ := q
    rw [hb] at h1; cases h1
    exact wpAny_tests_one (hc.tr cenv A _ σ s Q hk g M h2),
   fun cenv A ρ ρ₁ σ s Q y g hk hb M q => by
    obtain ⟨ρ', h1, h2⟩ := q
    rw [hb] at h1; cases h1
    exact he.ev cenv A _ σ s Q hk g M h2,
   fun ρ y σ Q ⟨ρ', q, _⟩ => ⟨ρ', q⟩⟩

theorem SoundE.comp {elt target iter : Expr} {scope : Scope} {pos : Pos} {tg : Tgt} {a b : X} (KK : CompOK vars kd scope tg) (hi : SoundE prog w B vars S n kd iter a) (ht : SoundT prog w B vars (kdIn scope kd) target tg) (he : SoundE prog w B vars S n (kdIn scope kd) elt b) (hset : notSet iter = true := by rfl) :
    SoundE prog w B vars S n kd (.ListComp elt [⟨target, iter, [], 0⟩] scope pos) (.comp tg a b) :=
  SoundE.of (fun _ => rfl) fun env A ρ σ s Q hk g M q => comp_ev KK hset hi ht (Clause.plain he) hk g M (by simp only [wpE] at q; exact q)
theorem SoundE.compIf {elt target iter c : Expr} {scope : Scope} {pos : Pos} {tg : Tgt} {a b x : X} (KK : CompOK vars kd scope tg) (hi : SoundE prog w B vars S n kd iter a) (ht : SoundT prog w B vars (kdIn scope kd) target tg) (hc : SoundE prog w B vars S n (kdIn scope kd) c x) (he : SoundE prog w B vars S n (kdIn scope kd) elt b) (hset : notSet iter = true := by rfl) :
    SoundE prog w B vars S n kd (.ListComp elt [⟨target, iter, [c], 0⟩] scope pos) (.compIf tg a x b) :=
  SoundE.of (fun _ => rfl) fun env A ρ σ s Q hk g M q => comp_ev KK hset hi ht (Clause.test1 hc he) hk g M (by simp only [wpE] at q; exact q)

/-- whether a comprehension's value is stored ahead of its names -/
noncomputable def swapB (kd : Str → Option NameKind) (scope : Scope) (t : Str) (p pos : Pos) : Bool :=
  kd t == some .local && p.line == pos.line && !(scope.names.any fun (n, k) => n == t && (k == .local || k == .cell))
theorem swaps_comp {elt : Expr} {gens : List Comprehension} {scope : Scope} {pos p : Pos} {t : Str} {line : Nat} (hk : env.kindOf = kd) (hf : env.scope.kind = .function) : swapsWith (.ListComp elt gens scope pos) (some (.Name t p)) line env = pure (swapB kd scope t p pos) := by
  subst hk
  have : env.blockKind = .function := by unfold Env.blockKind; rw [hf]; rfl
  unfold swapsWith
  simp only
  rw [this]
  simp only [swapB]
  rfl

theorem asg_swap {x : Str} {i : Nat} {p pos : Pos} {elt target iter : Expr} {ifs : List Expr} {scope : Scope} {cpos : Pos} {tg : Tgt} {a : X} {cnd : Loc → V → Store → (Bool → Store → Prop) → Prop} {el : Loc → V → Store → Post → Prop} {Q : FPost}
    (hn : vars.Nodup) (hx : vars[i]? = some x) (hkx : kd x = some .local ∨ kd x = some .cell) (hsw : swapB kd scope x p cpos = true)
    (KK : CompOK vars kd scope tg) (hset : notSet iter = true) (hi : SoundE prog w B vars S n kd iter a) (ht : SoundT prog w B vars (kdIn scope kd) target tg) (CL : Clause prog w B vars n kd scope tg ifs elt cnd el)
    (hk : env.kindOf = kd) (g : Good A n) (M : Sim prog w B vars env ρ σ s) (q : compQ S a cnd el ρ σ fun v σ₁ => ∃ ρ', bindT (.one i) v ρ = some ρ' ∧ Q .next ρ' σ₁) :
    wpAny (model prog w) A (exec (.Assign [.Name x p] (.ListComp elt [⟨target, iter, ifs, 0⟩] scope cpos) pos) env) (GotF prog w B vars env σ s Q) (fun _ _ => False) s := by
  rw [exec_Assign_Name_used _ _ _ _ (by rw [swaps_comp hk M.frame.kind, hsw])]
  refine wpAny_bind (wpAny_standAt (wpAny_bind ?_))
  show wpAny _ A (do let _ ← comprehension (.ListComp elt [⟨target, iter, ifs, 0⟩] scope cpos) scope env _ (newList []) false (eval iter env) (some (assign (.Name x p) env))) _ _ s
  refine wpAny_bind (wpAny_mono (wpAny_comprehension_free (use := some (assign (.Name x p) env)) (Q := fun _ s' => GotF prog w B vars env σ s Q .next s') rfl (folded_no hset) (comp_clos KK hk M) KK.kind (comp_names KK)
    (wpAny_mono (hi.ev env A ρ σ s _ hk g M q) (fun v s₁ h₁ => ?_) fun _ _ x => x)) (fun _ s' hq => wpAny_pure (wpAny_pure hq)) fun _ _ e => e)
  obtain ⟨y, σ₁, rv, M₁, T₁, items, ok, hsrc, hz, q₁⟩ := h₁
  refine comp_core KK g hk ht hz (fun cenv ρ₁ σ s Q y h1 => CL.test cenv A ρ ρ₁ σ s Q y g h1) (fun cenv ρ₁ σ s Q y h1 => CL.elt cenv A ρ ρ₁ σ s Q y g h1) (CL.bind ρ) M₁ rv hsrc q₁ ?_
  intro D C m l σe se hCs hns hDe Ma Ta hCn hCb hCo kl
  show wpAny _ A (assign (.Name x p) env (.ref D)) _ _ _
  obtain ⟨ρ', hρ, q₂⟩ := kl D hDe
  simp only [bindT] at hρ; cases hρ
  refine wpAny_assign_Name (store_sound hn Ma hx (by rw [hk]; exact hkx) (y := .ref D) (by simp [VRel]) fun h' tk Mb hkb => ?_)
  obtain ⟨o, es, ep, ho, r⟩ := hns
  refine ⟨m, ⟨o, es, ep, hkb _ _ hCo ho, r⟩, fun h'' hs'' => ?_⟩
  obtain ⟨Mf, Tf⟩ := comp_leave Mb (Ta.trans (Step.move hkb)) hCs ⟨o, es, ep, hkb _ _ hCo ho, r⟩ hCn hCb hCo hs''
  exact ⟨.next, _, _, rfl, Mf, T₁.trans Tf, q₂⟩

theorem asg_noswap {x : Str} {i : Nat} {e : Expr} {a : X} {p pos : Pos} {Q : FPost} (hn : vars.Nodup) (hx : vars[i]? = some x) (hkx : kd x = some .local ∨ kd x = some .cell) (h : SoundE prog w B vars S n kd e a) (hk : env.kindOf = kd) (g : Good A n) (M : Sim prog w B vars env ρ σ s)
    (hs : swapsWith e (some (.Name x p)) pos.line env = pure false) (q : wpS S (.asg (.one i) a) ρ σ Q) :
    wpAny (model prog w) A (exec (.Assign [.Name x p] e pos) env) (GotF prog w B vars env σ s Q) (fun _ _ => False) s := by
  simp only [wpS, bindT] at q
  refine wpAny_Assign_Name (wpAny_mono (h.ev env A ρ σ s _ hk g M q) (fun v s₁ h₁ => ?_) fun _ _ x => x) hs
  obtain ⟨y, σ₁, rv, M₁, T₁, ρ', hρ, q₁⟩ := h₁
  cases hρ
  refine store_sound hn M₁ hx (by rw [hk]; exact hkx) rv fun h' tk M' hk' => ?_
  exact (GotF.stored M' hk' q₁).trans T₁

theorem SoundS.asgComp {x : Str} {i : Nat} {p pos : Pos} {elt target iter : Expr} {scope : Scope} {cpos : Pos} {tg : Tgt} {a b : X} (hn : vars.Nodup) (hx : vars[i]? = some x) (hkx : kd x = some .local ∨ kd x = some .cell)
    (KK : CompOK vars kd scope tg) (hi : SoundE prog w B vars S n kd iter a) (ht : SoundT prog w B vars (kdIn scope kd) target tg) (he : SoundE prog w B vars S n (kdIn scope kd) elt b) (hset : notSet iter = true := by rfl) :
    SoundS prog w B vars S n kd (.Assign [.Name x p] (.ListComp elt [⟨target, iter, [], 0⟩] scope cpos) pos) (.asg (.one i) (.comp tg a b)) := fun env A ρ σ s Q hk g M q => by
  cases hsw : swapB kd scope x p cpos with
  | true => exact asg_swap hn hx hkx hsw KK hset hi ht (Clause.plain he) hk g M (by simp only [wpS, wpE] at q; exact q)
  | false => exact asg_noswap hn hx hkx (SoundE.comp KK hi ht he hset) hk g M (by rw [swaps_comp hk M.frame.kind, hsw]) q
theorem SoundS.asgCompIf {x : Str} {i : Nat} {p pos : Pos} {elt target iter c : Expr} {scope : Scope} {cpos : Pos} {tg : Tgt} {a b y : X} (hn : vars.Nodup) (hx : vars[i]? = some x) (hkx : kd x = some .local ∨ kd x = some .cell)
    (KK : CompOK vars kd scope tg) (hi : SoundE prog w B vars S n kd iter a) (ht : SoundT prog w B vars (kdIn scope kd) target tg) (hc : SoundE prog w B vars S n (kdIn scope kd) c y) (he : SoundE prog w B vars S n (kdIn scope kd) elt b) (hset : notSet iter = true := by rfl) :
    SoundS prog w B vars S n kd (.Assign [.Name x p] (.ListComp elt [⟨target, iter, [c], 0⟩] scope cpos) pos) (.asg (.one i) (.compIf tg a y b)) := fun env A ρ σ s Q hk g M q => by
  cases hsw : swapB kd scope x p cpos with
  | true => exact asg_swap hn hx hkx hsw KK hset hi ht (Clause.test1 hc he) hk g M (by simp only [wpS, wpE] at q; exact q)
  | false => exact asg_noswap hn hx hkx (SoundE.compIf KK hi ht hc he hset) hk g M (by rw [swaps_comp hk M.frame.kind, hsw]) q

theorem SoundS.stop {st : Stmt} : SoundS prog w B vars S n kd st .stop := fun env A ρ σ s Q _ _ _ q => by simp only [wpS] at q
end
end Mine

namespace Mine
open PySem PyProof.Rows

/-- the functions: how many parameters, and the body -/
abbrev Tab := Nat → Option (Nat × List Mine.S)
noncomputable def specAt (P : Tab) : Nat → Spec
  | 0 => fun _ _ _ _ => False
  | n + 1 => fun f vs σ Q => ∃ np xs, P f = some (np, xs) ∧ vs.length = np ∧ wpSs (specAt P n) xs (fun i => vs[i]?) σ fun fl _ σ' => Q (match fl with | .ret v => v | .next => .none) σ'

theorem bindL_other {kind : Str → Option NameKind} {x : Str} : ∀ {r : List (Str × Value)} {m : Str → Option Value}, x ∉ r.map (·.1) → bindL kind r m x = m x
  | [], _, _ => rfl
  | (y, v) :: r, m, h => by
    simp only [List.map_cons, List.mem_cons, not_or] at h
    unfold bindL
    rw [bindL_other h.2]
    split
    · exact if_neg h.1
    · rfl
theorem bindC_other {kind : Str → Option NameKind} {x : Str} : ∀ {r : List (Str × Value)} {m : Str → Option Value}, x ∉ r.map (·.1) → bindC kind r m x = m x
  | [], _, _ => rfl
  | (y, v) :: r, m, h => by
    simp only [List.map_cons, List.mem_cons, not_or] at h
    unfold bindC
    rw [bindC_other h.2]
    split
    · rfl
    · exact if_neg h.1
theorem zip_notin {x : Str} : ∀ {ns : List Str} {vs : List Value}, x ∉ ns → x ∉ (ns.zip vs).map (·.1)
  | [], _, _ => by simp
  | _ :: _, [], _ => by simp
  | n :: ns, v :: vs, h => by
    simp only [List.mem_cons, not_or] at h
    simp only [List.zip_cons_cons, List.map_cons, List.mem_cons, not_or]
    exact ⟨h.1, zip_notin h.2⟩
theorem bindL_get {kind : Str → Option NameKind} {x : Str} {u : Value} (hk : kind x = some .local) : ∀ {ns : List Str} {vs : List Value} {m : Str → Option Value} {i : Nat}, ns.Nodup → ns[i]? = some x → vs[i]? = some u → bindL kind (ns.zip vs) m x = some u
  | [], _, _, i, _, h, _ => by simp at h
  | _ :: _, [], _, i, _, _, h => by simp at h
  | n :: ns, v :: vs, m, 0, hn, h, h' => by
    simp at h h'; subst h; subst h'
    show bindL kind (ns.zip vs) _ n = _
    rw [bindL_other (zip_notin (List.nodup_cons.mp hn).1), if_pos hk]; exact if_pos rfl
  | n :: ns, v :: vs, m, i + 1, hn, h, h' => by
    simp at h h'
    show bindL kind (ns.zip vs) _ x = some u
    exact bindL_get hk (List.nodup_cons.mp hn).2 h h'
theorem bindC_get {kind : Str → Option NameKind} {x : Str} {u : Value} (hk : ¬ kind x = some .local) : ∀ {ns : List Str} {vs : List Value} {m : Str → Option Value} {i : Nat}, ns.Nodup → ns[i]? = some x → vs[i]? = some u → bindC kind (ns.zip vs) m x = some u
  | [], _, _, i, _, h, _ => by simp at h
  | _ :: _, [], _, i, _, _, h => by simp at h
  | n :: ns, v :: vs, m, 0, hn, h, h' => by
    simp at h h'; subst h; subst h'
    show bindC kind (ns.zip vs) _ n = _
    rw [bindC_other (zip_notin (List.nodup_cons.mp hn).1), if_neg hk]; exact if_pos rfl
  | n :: ns, v :: vs, m, i + 1, hn, h, h' => by
    simp at h h'
    show bindC kind (ns.zip vs) _ x = some u
    exact bindC_get hk (List.nodup_cons.mp hn).2 h h'

/-- a function of the program, as it stands at the start -/
structure FnAt (prog : Program) (w : World) (B : Shared) (G : Gl) (a : Addr) (np : Nat) (xs : List Mine.S) (vars : List Str) (o : Obj) (fd : FuncData) (body : List Stmt) : Prop where
  at_ : B.heap.get? a = some o
  data : o.data = .func fd
  code : B.heap.CodeRec fd.code fd.qualname
  bd : fd.body = .stmts body
  clos : fd.closure = []
  co : fd.scope.isCoroutine = false
  gen : fd.scope.isGenerator = false
  kind : fd.scope.kind = .function
  glob : fd.globals = mainGlobals
  bltn : fd.builtins = builtinsNs
  nd : vars.Nodup
  bind : ∀ vals : List Value, vals.length = np → bindArgs fd ⟨vals, []⟩ = pure ((vars.take np).zip vals)
  kinds : ∀ x ∈ vars.take np, fd.scope.names.lookup x = some .local ∨ fd.scope.names.lookup x = some .cell
  nofree : ∀ y ∈ fd.scope.names, y.2 ≠ .free
  sound : ∀ S n, SpecOK prog w B S n G → SoundSs prog w B vars S n (fun x => fd.scope.names.lookup x) body xs

section
variable {prog : Program} {w : World} {B : Shared} {G : Gl} {σ : Store} {s : Shared} {A : Around}

theorem fn_call {mg mb} (T : TopOK B G mg mb) {a : Addr} {np : Nat} {xs : List Mine.S} {vars : List Str} {o : Obj} {fd : FuncData} {body : List Stmt} (F : FnAt prog w B G a np xs vars o fd body) {S : Spec} {n : Nat} (hS : SpecOK prog w B S n G)
    {ys : List V} {vs : List Value} {Q : Post} (g : Good A (n + 1)) (C : Core prog w B σ s) (rs : VRels s.heap ys vs) (hl : ys.length = np)
    (q : wpSs S xs (fun i => ys[i]?) σ fun fl _ σ' => Q (match fl with | .ret v => v | .next => .none) σ') :
    codeAny (model prog w) A (.call (.ref a) ⟨vs, []⟩) (CallPost prog w B σ s Q) s := by
  have hvl : vs.length = np := by rw [rs.length, hl]
  have fstm : ∀ p ∈ (vars.take np).zip vs, p.1 ∈ vars.take np := fun p hp => (List.of_mem_zip (a := p.1) (b := p.2) hp).1
  refine codeAny_call_cells (by have := g.dep; omega) (C.base _ _ F.at_) F.data (T.lim.keeps C.base) (F.code.keeps C.base) F.bd (F.bind vs hvl) F.clos (fun p hp => ?_) (fun s₁ x => ?_) F.co F.gen F.kind
  · rcases F.kinds p.1 (fstm p hp) with h | h
    · exact .inl h
    · exact .inr ⟨h, PySem.W.cellsFrom_some _ _ _ (.inl h)⟩
  · generalize hen : callEnvC fd s.heap.objs.size a = env at x ⊢
    have hL : env.locals = s.heap.objs.size := by rw [← hen]; rfl
    have hkd : env.kindOf = fun y => fd.scope.names.lookup y := by rw [← hen]; rfl
    obtain ⟨h₁, tk₁, rfl⟩ := x.toInCall.same
    have hkeep : ∀ b o, s.heap.get? b = some o → h₁.get? b = some o := x.toInCall.keep
    have own_new : ∀ c, Own env c → s.heap.get? c = none := fun c hc => by
      refine Heap.get?_none_of_le ?_
      rcases hc with rfl | ⟨y, hy⟩
      · rw [hL]; exact Nat.le_refl _
      · have := x.above y c (mem_of_lookup hy)
        rw [hL] at this; exact Nat.le_of_lt this
    have C₁ : Core prog w B σ { s with heap := h₁, toks := tk₁ } := C.keeps tk₁ hkeep
    have rs₁ : VRels h₁ ys vs := rs.keep fun c o e _ => hkeep c o e
    have par : ∀ (i : Nat) y v, vars[i]? = some y → ys[i]? = some v → ∃ u, vs[i]? = some u ∧ VRel h₁ v u ∧ (vars.take np)[i]? = some y := fun i y v hy hv => by
      obtain ⟨u, hu, ru⟩ := rs₁.get hv
      refine ⟨u, hu, ru, ?_⟩
      have : i < np := by rw [← hl]; exact (List.getElem?_eq_some_iff.mp hv).1
      rw [List.getElem?_take_of_lt this]; exact hy
    have ndt : (vars.take np).Nodup := F.nd.sublist (List.take_sublist _ _)
    have M : Sim prog w B vars env (fun i => ys[i]?) σ { s with heap := h₁, toks := tk₁ } := by
      refine ⟨C₁, ⟨⟨_, x.toInCall.ns, fun i y v hy hv hk => ?_⟩, ns_notTup x.toInCall.ns, fun i y v hy hv hk => ?_, fun y c hc => ?_, fun y z c hy hz => ?_, fun y hy => ?_, fun c hc => C.free (own_new c hc), ?_, ?_, ?_⟩⟩
      · obtain ⟨u, hu, ru, ht⟩ := par i y v hy hv
        exact ⟨u, bindL_get hk ndt ht hu, ru⟩
      · obtain ⟨u, hu, ru, ht⟩ := par i y v hy hv
        have hk' : env.kindOf y = some .cell := by
          rcases hk with hk | hk
          · exact hk
          · rw [hkd] at hk; exact absurd rfl (F.nofree _ (mem_of_lookup hk))
        obtain ⟨c, hc⟩ := Option.isSome_iff_exists.mp (PySem.W.cellsFrom_some (x := y) fd.scope.names (s.heap.objs.size + 1) [] (.inl (by rw [hkd] at hk'; exact hk')))
        have hc' : env.cells.lookup y = some c := by rw [← hen]; exact hc
        refine ⟨c, u, hc', ?_, ru⟩
        have := x.cell y c hc'
        rw [bindC_get (by rw [hk']; simp) ndt ht hu] at this
        exact this
      · obtain ⟨o, h1, h2⟩ := x.cell y c hc
        refine ⟨⟨_, o, h1, h2⟩, Nat.ne_of_gt (x.above y c (mem_of_lookup hc)), fun o' e => ?_⟩
        have h1' : h₁.get? c = some o := h1
        have e' : h₁.get? c = some o' := e
        rw [h1'] at e'; cases e'
        exact fun z => z.2.2 _ h2
      · exact name_of_addr x.apart (mem_of_lookup hy) (mem_of_lookup hz)
      · have hk' : fd.scope.names.lookup y = some .cell := by
          rw [hkd] at hy
          rcases hy with hk | hk
          · exact hk
          · exact absurd rfl (F.nofree _ (mem_of_lookup hk))
        obtain ⟨c, hc⟩ := Option.isSome_iff_exists.mp (PySem.W.cellsFrom_some (x := y) fd.scope.names (s.heap.objs.size + 1) [] (.inl hk'))
        exact ⟨c, by rw [← hen]; exact hc⟩
      · rw [← hen]; exact F.kind
      · rw [← hen]; exact F.glob
      · rw [← hen]; exact F.bltn
    refine wpAny_mono (F.sound S n hS env (A.deeper env) _ σ _ _ hkd (g.deeper env) M q) (fun f s₂ h₂ => ?_) fun _ _ h => False.elim h
    obtain ⟨fl, ρ', σ', fr, M₂, T₂, q₂⟩ := h₂
    have T₃ : Step (fun _ => False) σ s σ' s₂ := ((Step.keeps hkeep).trans T₂).less fun c o e hc => by rw [own_new c hc] at e; cases e
    cases fl with
    | next => simp only [FRel] at fr; subst fr; exact ⟨.none, .none, σ', rfl, by simp [VRel], M₂.core, T₃, q₂⟩
    | ret v => obtain ⟨u, rfl, ru⟩ := fr; exact ⟨u, v, σ', rfl, ru, M₂.core, T₃, q₂⟩

theorem spec_ok {mg mb} (T : TopOK B G mg mb) {P : Tab} (hf : ∀ x i a, G.fns.lookup x = some (i, a) → ∃ np xs vars o fd body, P i = some (np, xs) ∧ FnAt prog w B G a np xs vars o fd body) : ∀ n, SpecOK prog w B (specAt P n) n G
  | 0 => fun _ _ _ _ _ _ _ _ _ _ _ _ _ q => False.elim q
  | n + 1 => fun x i a hx ys vs σ s Q A g C rs q => by
    obtain ⟨np, xs, vars, o, fd, body, hp, F⟩ := hf x i a hx
    obtain ⟨np', xs', hp', hl, q⟩ := q
    rw [hp] at hp'; cases hp'
    exact fn_call T F (spec_ok T hf n) g C rs hl q
end
end Mine

namespace Mine
open PySem PyProof.Rows

section
variable {prog : Program} {w : World} {B : Shared} {vars : List Str} {S : Spec} {n : Nat} {G : Gl} {kd : Str → Option NameKind} {env : Env} {ρ ρ' : Loc} {σ σ₁ σ' : Store} {s s₁ s' : Shared} {A : Around}

theorem lastMarks_of {o p : CmpOp} {r t : Expr} (h : notSet t = true) : lastMarks [o, p] [r, t] = false := by
  show behindInMarks p t = false
  exact marks_of h

theorem SoundE.cmp2 {o p : COp} {l r t : Expr} {a b c : X} {pos : Pos} {mg mb} (T : TopOK B G mg mb) (ha : SoundE prog w B vars S n kd l a) (hb : SoundE prog w B vars S n kd r b) (hc : SoundE prog w B vars S n kd t c) (hs : notSet t = true := by rfl) :
    SoundE prog w B vars S n kd (.Compare l [o.real, p.real] [r, t] pos) (.cmp2 o p a b c) := by
  refine ⟨fun env A ρ σ s Q hk g M q => ?_, fun env A ρ σ s Q hk g M q => ?_⟩
  · simp only [wpE] at q
    refine Compare_chain (wpAny_mono (ha.ev env A ρ σ s _ hk g M q) (fun va s₁ h₁ => ?_) fun _ _ x => x) (lastMarks_of hs)
    obtain ⟨x, σ₁, rv, M₁, T₁, q₁⟩ := h₁
    refine chain_link (wpAny_mono (hb.ev env A ρ σ₁ s₁ _ hk g M₁ q₁) (fun vb s₂ h₂ => ?_) fun _ _ x => x)
    obtain ⟨y, σ₂, rv₂, M₂, T₂, u, hu, q₂⟩ := h₂
    refine cmp_sound T g M₂.core (rv.step M₁ T₂) rv₂ hu fun tk => wpAny_truthy_bool ?_
    cases u with
    | false => exact (Got.tok (x := .bool false) M₂ rfl q₂).trans (T₁.trans T₂)
    | true =>
      refine chain_last (wpAny_mono (hc.ev env A ρ σ₂ _ _ hk g (M₂.toks tk) q₂) (fun vc s₃ h₃ => ?_) fun _ _ x => x)
      obtain ⟨z, σ₃, rv₃, M₃, T₃, u', hu', q₃⟩ := h₃
      refine cmp_sound T g M₃.core (VRel.step (s := { s₂ with toks := tk }) rv₂ (M₂.toks tk) T₃) rv₃ hu' fun tk' => ?_
      exact (Got.tok (x := .bool u') M₃ rfl q₃).trans ((T₁.trans T₂).trans (Step.toks.trans T₃))
  · simp only [wpE] at q
    refine isTrue_chain (wpAny_mono (ha.ev env A ρ σ s _ hk g M q) (fun va s₁ h₁ => ?_) fun _ _ x => x) (lastMarks_of hs)
    obtain ⟨x, σ₁, rv, M₁, T₁, q₁⟩ := h₁
    refine test_link (wpAny_mono (hb.ev env A ρ σ₁ s₁ _ hk g M₁ q₁) (fun vb s₂ h₂ => ?_) fun _ _ x => x)
    obtain ⟨y, σ₂, rv₂, M₂, T₂, u, hu, q₂⟩ := h₂
    refine cmp_sound T g M₂.core (rv.step M₁ T₂) rv₂ hu fun tk => wpAny_truthy_bool ?_
    cases u with
    | false => exact ⟨σ₂, M₂.toks tk, (T₁.trans T₂).trans Step.toks, q₂⟩
    | true =>
      refine test_last (wpAny_mono (hc.ev env A ρ σ₂ _ _ hk g (M₂.toks tk) q₂) (fun vc s₃ h₃ => ?_) fun _ _ x => x)
      obtain ⟨z, σ₃, rv₃, M₃, T₃, u', hu', q₃⟩ := h₃
      refine cmp_sound T g M₃.core (VRel.step (s := { s₂ with toks := tk }) rv₂ (M₂.toks tk) T₃) rv₃ hu' fun tk' => wpAny_truthy_bool ?_
      exact ⟨σ₃, M₃.toks tk', ((T₁.trans T₂).trans (Step.toks.trans T₃)).trans Step.toks, q₃⟩
end
end Mine

namespace Mine
open PySem PyProof.Rows
section
variable {prog : Program} {w : World} {B : Shared} {vars : List Str} {S : Spec} {n : Nat} {G : Gl} {kd : Str → Option NameKind}

theorem foldl_min {w : Int} : ∀ {r : List Int} {i : Int}, (∀ x ∈ i :: r, w ≤ x) → w ∈ i :: r → r.foldl min i = w
  | [], i, _, h => by cases h with | head => rfl | tail _ h => cases h
  | a :: r, i, h, hm => by
    show r.foldl min (min i a) = w
    have hi := h i (.head _)
    have ha := h a (.tail _ (.head _))
    refine foldl_min (fun x hx => ?_) ?_
    · cases hx with
      | head => omega
      | tail _ hx => exact h x (.tail _ (.tail _ hx))
    · cases hm with
      | head => rw [Int.min_eq_left ha]; exact .head _
      | tail _ hm => cases hm with
        | head => rw [Int.min_eq_right hi]; exact .head _
        | tail _ hm => exact .tail _ hm

theorem ints_items {h : Heap} : ∀ {l : List V} {is : List Int} {vs : List Value}, intsOf l = some is → VRels h l vs → ∃ ys : List (Int × Tok), vs = (ys.map fun p => Value.int p.1 p.2) ∧ ys.map (·.1) = is
  | [], _, vs, e, r => by
    cases (e : some [] = _)
    exact ⟨[], (r : vs = []), rfl⟩
  | x :: l, is, vs, e, r => by
    cases x with
    | int i =>
      have e' : (intsOf l).map (i :: ·) = some is := e
      obtain ⟨v, r', hv, ra, rb⟩ := (r : ∃ v r', vs = v :: r' ∧ VRel h (.int i) v ∧ VRels h l r')
      obtain ⟨t, ht⟩ := (ra : ∃ t, v = .int i t)
      cases hl : intsOf l with
      | none => rw [hl] at e'; cases e'
      | some is' =>
        rw [hl] at e'; cases e'
        obtain ⟨ys, h1, h2⟩ := ints_items hl rb
        exact ⟨(i, t) :: ys, by rw [hv, ht, h1]; rfl, by rw [List.map_cons, h2]⟩
    | _ => cases (e : none = some is)

theorem SoundE.minOf {p pos : Pos} {e : Expr} {a : X} {mg mb} (T : TopOK B G mg mb) (hkx : kd "min" = some .globalImplicit) (h : SoundE prog w B vars S n kd e a) (hs : starred e = false := by rfl) : SoundE prog w B vars S n kd (.Call (.Name "min" p) [e] [] pos) (.minOf a) := by
  refine SoundE.call1 T (f := .builtin "min") (by decide +kernel) hkx hs h (.inl ⟨_, rfl⟩) (fun va σ₁ Q => ∃ p m l i r, va = .ref p ∧ σ₁ p = some (.list m l) ∧ l.length ≤ 1000000 ∧ intsOf l = some (i :: r) ∧ Q (.int (r.foldl min i)) σ₁) (fun _ _ _ q => q) fun env A ρ y v σ₁ s₁ Q g rv M q => ?_
  obtain ⟨q, m, l, i, r, rfl, hp, hz, hi, q⟩ := q
  cases (rv : v = .ref _)
  obtain ⟨vs, ⟨hpl, _⟩, z, rs⟩ := M.core.objs _ _ hp
  obtain ⟨ys, h1, h2⟩ := ints_items hi rs
  have hvs : vs = intItems ys.toArray := by
    apply Array.toList_inj.mp
    rw [h1]; simp [intItems]
  rw [hvs] at hpl
  have hsz : 0 < ys.toArray.size := by
    have := congrArg List.length h2
    rw [List.length_map] at this
    show 0 < ys.length
    rw [this]; exact Nat.zero_lt_succ _
  refine min_intList g.hd hpl hsz fun v h' tk hv hk => ?_
  obtain ⟨t, rfl⟩ := intItems_at hv
  obtain ⟨k1, k2⟩ := argBest_lt (numAt ys.toArray) (ys.toArray.size - 1)
  refine Got.grown (x := .int (r.foldl min i)) M hk ?_ q
  refine ⟨t, ?_⟩
  congr 1
  have hlen : ys.length = (i :: r).length := by rw [← h2, List.length_map]
  have key : ∀ j, numAt ys.toArray j = (i :: r).getD j 0 := fun j => by rw [numAt_eq, ← h2]
  refine (foldl_min (fun x hx => ?_) ?_).symm
  · obtain ⟨j, hj, e⟩ := List.getElem_of_mem hx
    have := k2 j (by show j ≤ ys.length - 1; omega)
    rw [key j, List.getD_eq_getElem?_getD, List.getElem?_eq_getElem hj] at this
    rw [← e]; exact this
  · rw [key, List.getD_eq_getElem?_getD]
    have : argBest (fun i j => decide (numAt ys.toArray i < numAt ys.toArray j)) (ys.toArray.size - 1) < (i :: r).length := by
      have : ys.toArray.size = ys.length := rfl
      omega
    rw [List.getElem?_eq_getElem this]
    exact List.getElem_mem _

theorem SoundE.get2 {o e e' : Expr} {a b c : X} {apos pos : Pos} {mg mb} (T : TopOK B G mg mb) (ho : SoundE prog w B vars S n kd o a) (he : SoundE prog w B vars S n kd e b) (he' : SoundE prog w B vars S n kd e' c) (hb : plainBase o = true := by rfl) (hs : starred e = false := by rfl) (hs' : starred e' = false := by rfl) (hl : (apos.endLine == pos.line) = true := by rfl) :
    SoundE prog w B vars S n kd (.Call (.Attribute o "get" apos) [e, e'] [] pos) (.get2 a b c) := by
  refine SoundE.of (fun _ => rfl) fun env A ρ σ s Q hk g M q => ?_
  have q : wpE S a ρ σ fun vo σ₁ => ∃ p m es, vo = .ref p ∧ σ₁ p = some (.ds m es) ∧ wpE S b ρ σ₁ fun vk σ₂ => wpE S c ρ σ₂ fun vd σ₃ => ∃ m' es' x, vk = .str x ∧ σ₃ p = some (.ds m' es') ∧ Q ((look es' x).getD vd) σ₃ := q
  refine wpAny_Call_method (base_of hb) (few_of (by simp [hs, hs']) (by simp)) hl F.plainAttrs_dict F.slot_dict_get F.type_dict_get (wpAny_mono (ho.ev env A ρ σ s _ hk g M q) (fun ov s₁ h₁ => ?_) fun _ _ x => x)
  obtain ⟨x, σ₁, rv, M₁, T₁, p, m, l₀, rfl, hp, q₁⟩ := h₁
  cases (rv : ov = .ref _)
  obtain ⟨kvs₀, hd₀, _, _⟩ := M₁.core.objs _ _ hp
  refine ⟨hd₀.typeIs, hd₀.mapOf.noDict, ?_⟩
  rw [backTo_cons hs, backTo_cons hs']
  refine wpAny_dict_get2 (knd := PySem.strKind prog w) (M₁.core.notMods T hp rfl) (wpAny_mono (he.ev env A ρ σ₁ s₁ _ hk g M₁ q₁) (fun v s₂ h₂ => ?_) fun _ _ x => x)
  obtain ⟨y, σ₂, rv₂, M₂, T₂, q₂⟩ := h₂
  refine wpAny_mono (he'.ev env A ρ σ₂ s₂ _ hk g M₂ q₂) (fun u s₃ h₃ => ?_) fun _ _ x => x
  obtain ⟨z, σ₃, rv₃, M₃, T₃, m', es', x, rfl, hp', q₃⟩ := h₃
  obtain ⟨t, rfl⟩ := (rv₂ : ∃ t, v = .str x t)
  obtain ⟨kvs, hd, hkk, hv⟩ := M₃.core.objs _ _ hp'
  refine ⟨x, _, by simp [PySem.strKind, Value.isStrOf], hd.mapOf, ?_⟩
  rcases look_valueAt hkk hv x with ⟨h1, h2⟩ | ⟨x', v', h1, h2, h3⟩
  · rw [h2]; rw [h1] at q₃
    exact (Got.tok (x := z) M₃ rv₃ q₃).trans ((T₁.trans T₂).trans T₃)
  · rw [h2]; rw [h1] at q₃
    exact (Got.tok (x := x') M₃ h3 q₃).trans ((T₁.trans T₂).trans T₃)

theorem insert0_eq {y : Value} : (fun xs : Array Value => have k := if (0 : Int) < 0 then ((0 : Int) + (xs.size : Int)).toNat else min (0 : Int).toNat xs.size; (xs.extract 0 k).push y ++ xs.extract k) = fun xs => #[y] ++ xs := by
  funext xs
  show (xs.extract 0 (min 0 xs.size)).push y ++ xs.extract (min 0 xs.size) = _
  rw [Nat.zero_min]
  simp

theorem SoundE.insert0 {o e : Expr} {a b : X} {apos pos ip : Pos} {ik : Nat} (ho : SoundE prog w B vars S n kd o a) (he : SoundE prog w B vars S n kd e b) (hb : plainBase o = true := by rfl) (hs : starred e = false := by rfl) (hl : (apos.endLine == pos.line) = true := by rfl) :
    SoundE prog w B vars S n kd (.Call (.Attribute o "insert" apos) [.Constant (.int 0) ik ip, e] [] pos) (.insert0 a b) := by
  refine SoundE.of (fun _ => rfl) fun env A ρ σ s Q hk g M q => ?_
  have q : wpE S a ρ σ fun vo σ₁ => ∃ p l₀, vo = .ref p ∧ σ₁ p = some (.list true l₀) ∧ wpE S b ρ σ₁ fun va σ₂ => ∃ l, σ₂ p = some (.list true l) ∧ l.length ≤ 1000000 ∧ Q .none (σ₂.set p (.list true (va :: l))) := q
  refine wpAny_Call_method (base_of hb) (few_of (by rw [List.all_cons, List.all_cons, hs]; rfl) (by simp)) hl F.plainAttrs_list F.slot_list_insert F.type_list_insert (wpAny_mono (ho.ev env A ρ σ s _ hk g M q) (fun ov s₁ h₁ => ?_) fun _ _ x => x)
  obtain ⟨x, σ₁, rv, M₁, T₁, p, l₀, rfl, hp, q₁⟩ := h₁
  cases (rv : ov = .ref _)
  obtain ⟨vs₀, ⟨_, hpl₀⟩, _, _⟩ := M₁.core.objs _ _ hp
  have hpl₀ := hpl₀ rfl
  refine ⟨hpl₀.isList.typeIs, fun c e => by cases e; obtain ⟨k, gg⟩ := hpl₀; exact ⟨_, gg, rfl⟩, ?_⟩
  rw [backTo_cons rfl, backTo_cons hs]
  have hc : SoundE prog w B vars S n kd (.Constant (.int 0) ik ip) (.cst (.int 0)) := SoundE.cInt
  refine method2_meetsIn F.slot_list_insert F.entry_list_insert (wpAny_mono (hc.ev env A ρ σ₁ s₁ (fun v σ' => v = .int 0 ∧ σ' = σ₁) hk g M₁ ⟨rfl, rfl⟩) (fun zv s₂ h₂ => ?_) fun _ _ x => x)
  obtain ⟨_, σ₂, rz, M₂, T₂, rfl, rfl⟩ := h₂
  obtain ⟨tz, rfl⟩ := (rz : ∃ t, zv = .int 0 t)
  refine wpAny_mono (he.ev env A ρ σ₂ s₂ _ hk g M₂ q₁) (fun v s₃ h₃ => ?_) fun _ _ x => x
  obtain ⟨y, σ₃, rv₃, M₃, T₃, l, hl3, hz, q₃⟩ := h₃
  obtain ⟨vs, ⟨_, hpl⟩, z, rs⟩ := M₃.core.objs _ _ hl3
  obtain ⟨k, gg⟩ := hpl rfl
  have hlen := rs.length
  rw [Array.length_toList] at hlen
  have hsz : vs.size ≤ sizeLine := by rw [sizeLine_eq]; omega
  refine ⟨(show Heap.PlainList _ _ _ from ⟨k, gg⟩).isList.typeIs, F.args_list_insert_3 _ _ _, _, (AutoSeq1.list_insert_list_int_val_1 p vs k 0 tz v (by decide) hsz).inModel prog w, gg, ?_⟩
  rw [insert0_eq]
  have em : (Obj.mapSeq fun xs => #[v] ++ xs) { cls := .type "list", dict := none, data := .seq vs k, slots := #[] } = { cls := .type "list", dict := none, data := .seq (#[v] ++ vs) (if (#[v] ++ vs).size == vs.size then k else k + 1), slots := #[] } := rfl
  have hu := Heap.get?_update_self (Obj.mapSeq fun xs => #[v] ++ xs) gg (by rw [em]; rfl)
  rw [em] at hu
  obtain ⟨M₄, T₄⟩ := M₃.set (o' := .list true (y :: l)) (h' := s₃.heap.update p (Obj.mapSeq fun xs => #[v] ++ xs)) s₃.toks hl3 rfl (fun b o hb e => by rw [Heap.get?_update_other _ _ (Ne.symm hb)]; exact e)
    ⟨#[v] ++ vs, ⟨(show Heap.PlainList _ _ _ from ⟨_, hu⟩).isList, fun _ => ⟨_, hu⟩⟩, by simp; omega, by
      have ht : ∀ c o, s₃.heap.get? c = some o → tupLike o → (s₃.heap.update p (Obj.mapSeq fun xs => #[v] ++ xs)).get? c = some o := fun c o e ht => by
        rw [Heap.get?_update_other _ _ (fun q => by subst q; rw [gg] at e; cases e; revert ht; unfold tupLike; simp)]; exact e
      rw [Array.toList_append]
      exact (VRels.one (rv₃.keep ht)).append (rs.keep ht)⟩
  exact ⟨.none, _, rfl, M₄, (T₁.trans (T₂.trans T₃)).trans T₄, q₃⟩
end
end Mine

namespace Mine
open PySem PyProof.Rows

/-! A check of a mini-Python text against the program's own text: once true, the text is sound. -/
abbrev Kd := Str → Option NameKind
abbrev CkE := Kd → Expr → X → Bool

/-- an expression, laid out flat -/
structure EV where
  tag : Nat
  s : Str
  p : Pos
  k : Nat
  c : Const
  a : Expr
  b : Expr
  o1 : Option Expr
  o2 : Option Expr
  o3 : Option Expr
  es : List Expr
  os : List (Option Expr)
  uop : UnaryOp
  bop : Operator
  lop : BoolOp
  cops : List CmpOp
  gens : List Comprehension
  sc : Scope
  kws : List Keyword
noncomputable def ev0 (e : Expr) : EV := ⟨0, ⟨#[]⟩, ⟨0, 0, 0, 0⟩, 0, .none, e, e, none, none, none, [], [], .Not, .Add, .And, [], [], ⟨.function, [], false, false, []⟩, []⟩
noncomputable def view (e : Expr) : EV := match e with
  | .Name x p => { ev0 e with tag := 1, s := x, p := p }
  | .Constant c k p => { ev0 e with tag := 2, c := c, k := k, p := p }
  | .UnaryOp op x p => { ev0 e with tag := 3, uop := op, a := x, p := p }
  | .BinOp l op r p => { ev0 e with tag := 4, a := l, bop := op, b := r, p := p }
  | .Compare l ops rs p => { ev0 e with tag := 5, a := l, cops := ops, es := rs, p := p }
  | .BoolOp op es p => { ev0 e with tag := 6, lop := op, es := es, p := p }
  | .Subscript l r p => { ev0 e with tag := 7, a := l, b := r, p := p }
  | .Slice lo hi st p => { ev0 e with tag := 8, o1 := lo, o2 := hi, o3 := st, p := p }
  | .List es p => { ev0 e with tag := 9, es := es, p := p }
  | .Tuple es k p => { ev0 e with tag := 10, es := es, k := k, p := p }
  | .Dict ks vs p => { ev0 e with tag := 11, os := ks, es := vs, p := p }
  | .Call g es kws p => { ev0 e with tag := 12, a := g, es := es, kws := kws, p := p }
  | .Attribute x y p => { ev0 e with tag := 13, a := x, s := y, p := p }
  | .ListComp elt gens sc p => { ev0 e with tag := 14, a := elt, gens := gens, sc := sc, p := p }
  | _ => ev0 e
noncomputable def table (v : EV) : List Expr := [.Name v.s v.p, .Constant v.c v.k v.p, .UnaryOp v.uop v.a v.p, .BinOp v.a v.bop v.b v.p, .Compare v.a v.cops v.es v.p, .BoolOp v.lop v.es v.p, .Subscript v.a v.b v.p,
  .Slice v.o1 v.o2 v.o3 v.p, .List v.es v.p, .Tuple v.es v.k v.p, .Dict v.os v.es v.p, .Call v.a v.es v.kws v.p, .Attribute v.a v.s v.p, .ListComp v.a v.gens v.sc v.p]
theorem view_ok (e : Expr) : (view e).tag = 0 ∨ (table (view e))[(view e).tag - 1]? = some e := by
  cases e <;> first | exact .inl rfl | exact .inr rfl
theorem view_at {e x : Expr} {k : Nat} (h : Nat.beq (view e).tag (k + 1) = true) (hx : (table (view e))[k]? = some x) : e = x := by
  have h := Nat.eq_of_beq_eq_true h
  rcases view_ok e with h0 | h0
  · rw [h0] at h; cases h
  · rw [h] at h0
    exact Option.some.inj (h0.symm.trans hx)
noncomputable def isT (k : Nat) (e : Expr) : Bool := Nat.beq (view e).tag k

/-- a statement, laid out flat -/
structure SV where
  tag : Nat
  p : Pos
  a : Expr
  b : Expr
  o : Option Expr
  es : List Expr
  ss : List Stmt
  ts : List Stmt
noncomputable def e0 : Expr := .Name ⟨#[]⟩ ⟨0, 0, 0, 0⟩
noncomputable def sv0 : SV := ⟨0, ⟨0, 0, 0, 0⟩, e0, e0, none, [], [], []⟩
noncomputable def sview (s : Stmt) : SV := match s with
  | .Expr e p => { sv0 with tag := 1, a := e, p := p }
  | .Assign ts e p => { sv0 with tag := 2, es := ts, a := e, p := p }
  | .Return o p => { sv0 with tag := 3, o := o, p := p }
  | .If e a b p => { sv0 with tag := 4, a := e, ss := a, ts := b, p := p }
  | .For t i a b p => { sv0 with tag := 5, a := t, b := i, ss := a, ts := b, p := p }
  | .While e a b p => { sv0 with tag := 6, a := e, ss := a, ts := b, p := p }
  | _ => sv0
noncomputable def stable (v : SV) : List Stmt := [.Expr v.a v.p, .Assign v.es v.a v.p, .Return v.o v.p, .If v.a v.ss v.ts v.p, .For v.a v.b v.ss v.ts v.p, .While v.a v.ss v.ts v.p]
theorem sview_ok (s : Stmt) : (sview s).tag = 0 ∨ (stable (sview s))[(sview s).tag - 1]? = some s := by
  cases s <;> first | exact .inl rfl | exact .inr rfl
theorem sview_at {s x : Stmt} {k : Nat} (h : Nat.beq (sview s).tag (k + 1) = true) (hx : (stable (sview s))[k]? = some x) : s = x := by
  have h := Nat.eq_of_beq_eq_true h
  rcases sview_ok s with h0 | h0
  · rw [h0] at h; cases h
  · rw [h] at h0
    exact Option.some.inj (h0.symm.trans hx)
noncomputable def isS (k : Nat) (s : Stmt) : Bool := Nat.beq (sview s).tag k

theorem and2 {a b : Bool} (h : (a && b) = true) : a = true ∧ b = true := Bool.and_eq_true_iff.mp h
theorem not_of {b : Bool} (h : (!b) = true) : b = false := by cases b with | false => rfl | true => cases h

noncomputable def isGl (kd : Kd) (x : Str) : Bool := decide (kd x = some .globalImplicit)
noncomputable def isLc (kd : Kd) (x : Str) : Bool := decide (kd x = some .local) || decide (kd x = some .cell)
noncomputable def is1 (l : List Expr) (g : Expr → Bool) : Bool := match l with
  | [] => false
  | e :: r => r.isEmpty && g e
noncomputable def is2 (l : List Expr) (g : Expr → Expr → Bool) : Bool := match l with
  | [] => false
  | e :: r => is1 r (g e)
theorem nil_of {α : Type} {l : List α} (h : l.isEmpty = true) : l = [] := by cases l with | nil => rfl | cons => cases h
theorem is1_of {l : List Expr} {g : Expr → Bool} (h : is1 l g = true) : ∃ e, l = [e] ∧ g e = true := by
  cases l with
  | nil => cases h
  | cons e r =>
    obtain ⟨h1, h2⟩ := and2 h
    rw [nil_of h1]; exact ⟨e, rfl, h2⟩
theorem is2_of {l : List Expr} {g : Expr → Expr → Bool} (h : is2 l g = true) : ∃ e e', l = [e, e'] ∧ g e e' = true := by
  cases l with
  | nil => cases h
  | cons e r =>
    obtain ⟨e', h1, h2⟩ := is1_of (g := g e) h
    rw [h1]; exact ⟨e, e', rfl, h2⟩

noncomputable def BOp.real : BOp → Operator
  | .add => .Add | .sub => .Sub | .mul => .Mult | .fdiv => .FloorDiv | .mod => .Mod
noncomputable def V.const : V → Const
  | .none => .none
  | .bool b => .bool b
  | .int i => .int i
  | .str x => .str x
  | .tup _ => .ellipsis
  | .rng _ _ => .ellipsis
  | .ref _ => .ellipsis
noncomputable def isRef : V → Bool
  | .none => false
  | .bool _ => false
  | .int _ => false
  | .str _ => false
  | .tup _ => true
  | .rng _ _ => true
  | .ref _ => true
noncomputable def ckVar (vars : List Str) (kd : Kd) (i : Nat) (e : Expr) : Bool :=
  isT 1 e && (decide (vars[i]? = some (view e).s) && ((isLc kd (view e).s || decide (kd (view e).s = some .free)) && (!((view e).s == ("__debug__" : Str)) && !((view e).s == ("__classdict__" : Str)))))
noncomputable def ckNeg (v : V) (e : Expr) : Bool := isT 3 e && (decide ((view e).uop = .USub) && (isT 2 (view e).a && (match v with
  | .int j => decide ((view (view e).a).c = .int (-j))
  | _ => false)))
noncomputable def ckCst (v : V) (e : Expr) : Bool := (isT 2 e && (!isRef v && decide ((view e).c = v.const))) || ckNeg v e
noncomputable def ckGl (cs : List (Str × V)) (kd : Kd) (x : Str) (v : V) (e : Expr) : Bool :=
  isT 1 e && ((view e).s == x && (isGl kd x && (!(x == ("__debug__" : Str)) && (imm v && (!isRef v && (match cs.lookup x with | some u => !isRef u && decide (u.const = v.const) | none => false))))))
noncomputable def ckBin (f : CkE) (kd : Kd) (o : BOp) (a b : X) (e : Expr) : Bool := isT 4 e && (decide ((view e).bop = o.real) && (f kd (view e).a a && f kd (view e).b b))
noncomputable def ckCmp (f : CkE) (kd : Kd) (o : COp) (a b : X) (e : Expr) : Bool := isT 5 e && (decide ((view e).cops = [o.real]) && (is1 (view e).es fun r => notSet r && (f kd (view e).a a && f kd r b)))
noncomputable def ckCmp2 (f : CkE) (kd : Kd) (o p : COp) (a b c : X) (e : Expr) : Bool := isT 5 e && (decide ((view e).cops = [o.real, p.real]) && (is2 (view e).es fun r t => notSet t && (f kd (view e).a a && (f kd r b && f kd t c))))
noncomputable def X.two (b : Bool) : X → Option (X × X)
  | .and x y => if b then some (x, y) else none
  | .or x y => if b then none else some (x, y)
  | _ => none
noncomputable def ckBs (f : CkE) (kd : Kd) (b : Bool) : List Expr → X → Bool
  | [], _ => false
  | e :: es, x => match es.isEmpty with
    | true => f kd e x
    | false => match x.two b with
      | some (y, z) => f kd e y && ckBs f kd b es z
      | none => false
noncomputable def ckBool (f : CkE) (kd : Kd) (x : X) (e : Expr) : Bool := isT 6 e && ckBs f kd (decide ((view e).lop = .And)) (view e).es x
noncomputable def ckNot (f : CkE) (kd : Kd) (a : X) (e : Expr) : Bool := isT 3 e && (decide ((view e).uop = .Not) && f kd (view e).a a)
noncomputable def ckSub (f : CkE) (kd : Kd) (a b : X) (e : Expr) : Bool := isT 7 e && (f kd (view e).a a && f kd (view e).b b)
noncomputable def isNoneX : X → Bool
  | .cst v => decide (v.const = .none)
  | _ => false
noncomputable def ckEnd (f : CkE) (kd : Kd) (o : Option Expr) (x : X) : Bool := match o with
  | none => isNoneX x
  | some e => f kd e x
noncomputable def ckSlc (f : CkE) (kd : Kd) (a b c : X) (e : Expr) : Bool :=
  isT 7 e && (isT 8 (view e).b && ((view (view e).b).o3.isNone && (f kd (view e).a a && (ckEnd f kd (view (view e).b).o1 b && ckEnd f kd (view (view e).b).o2 c))))
noncomputable def ckRev (f : CkE) (kd : Kd) (a : X) (e : Expr) : Bool :=
  isT 7 e && (isT 8 (view e).b && ((view (view e).b).o1.isNone && ((view (view e).b).o2.isNone && (f kd (view e).a a && (match (view (view e).b).o3 with
    | some e => ckNeg (.int (-1)) e
    | none => false)))))
noncomputable def ckEs (f : CkE) (kd : Kd) : List Expr → List X → Bool
  | [], xs => xs.isEmpty
  | e :: es, xs => match xs with
    | [] => false
    | x :: xs => !starred e && (f kd e x && ckEs f kd es xs)
noncomputable def ckList (f : CkE) (kd : Kd) (xs : List X) (e : Expr) : Bool := isT 9 e && (decide ((view e).es.length ≤ 1000) && ckEs f kd (view e).es xs)
noncomputable def ckTup (f : CkE) (kd : Kd) (xs : List X) (e : Expr) : Bool := isT 10 e && (decide ((view e).es.length ≤ 1000) && ckEs f kd (view e).es xs)
noncomputable def ckDict0 (e : Expr) : Bool := isT 11 e && ((view e).os.isEmpty && (view e).es.isEmpty)
noncomputable def ckDict1 (f : CkE) (kd : Kd) (a b : X) (e : Expr) : Bool := isT 11 e && (is1 (view e).es fun v => match (view e).os with
  | [] => false
  | o :: r => r.isEmpty && (match o with
    | none => false
    | some k => f kd k a && f kd v b))
/-- a call by name -/
noncomputable def nm (e : Expr) (kd : Kd) (x : Str) : Bool := isT 12 e && ((view e).kws.isEmpty && (isT 1 (view e).a && ((view (view e).a).s == x && isGl kd x)))
noncomputable def ckC1 (f : CkE) (kd : Kd) (x : Str) (a : X) (e : Expr) : Bool := nm e kd x && is1 (view e).es fun y => !starred y && f kd y a
noncomputable def ckC2 (f : CkE) (kd : Kd) (x : Str) (a b : X) (e : Expr) : Bool := nm e kd x && is2 (view e).es fun y z => !starred y && (!starred z && (f kd y a && f kd z b))
noncomputable def ckIsi (f : CkE) (kd : Kd) (a : X) (t : Ty) (e : Expr) : Bool := nm e kd "isinstance" && is2 (view e).es fun y z => isT 1 z && ((view z).s == Str.ofString t.name && (isGl kd (Str.ofString t.name) && (!starred y && f kd y a)))
/-- a method's call -/
noncomputable def mt (e : Expr) (x : Str) : Bool := isT 12 e && ((view e).kws.isEmpty && (isT 13 (view e).a && ((view (view e).a).s == x && (plainBase (view (view e).a).a && ((view (view e).a).p.endLine == (view e).p.line)))))
noncomputable def ckM1 (f : CkE) (kd : Kd) (x : Str) (a b : X) (e : Expr) : Bool := mt e x && is1 (view e).es fun y => !starred y && (f kd (view (view e).a).a a && f kd y b)
noncomputable def ckM2 (f : CkE) (kd : Kd) (x : Str) (a b c : X) (e : Expr) : Bool := mt e x && is2 (view e).es fun y z => !starred y && (!starred z && (f kd (view (view e).a).a a && (f kd y b && f kd z c)))
noncomputable def ckIns (f : CkE) (kd : Kd) (a b : X) (e : Expr) : Bool := mt e "insert" && is2 (view e).es fun y z => (isT 2 y && decide ((view y).c = .int 0)) && (!starred z && (f kd (view (view e).a).a a && f kd z b))
noncomputable def ckCall (ids : List (Str × Nat)) (f : CkE) (kd : Kd) (i : Nat) (xs : List X) (e : Expr) : Bool :=
  isT 12 e && ((view e).kws.isEmpty && (isT 1 (view e).a && (decide (ids.lookup (view (view e).a).s = some i) && (isGl kd (view (view e).a).s && (!((view (view e).a).s == ("__debug__" : Str)) && (!(view e).es.isEmpty && ckEs f kd (view e).es xs))))))
/-- targets -/
noncomputable def ckNames (vars : List Str) (kd : Kd) : List Expr → List Nat → Bool
  | [], is => is.isEmpty
  | e :: es, is => match is with
    | [] => false
    | i :: is => isT 1 e && (decide (vars[i]? = some (view e).s) && (isLc kd (view e).s && ckNames vars kd es is))
noncomputable def ckTgt (vars : List Str) (kd : Kd) (e : Expr) (t : Tgt) : Bool := match t with
  | .one i => isT 1 e && (decide (vars[i]? = some (view e).s) && isLc kd (view e).s)
  | .many is => isT 10 e && ckNames vars kd (view e).es is
noncomputable def ckScope (vars : List Str) (kd : Kd) (scope : Scope) (tg : Tgt) : Bool :=
  decide (scope.kind = .function) && (decide ((scope.names.map (·.1)).Nodup) && (scope.names.all (fun y => !(decide (y.2 = .cell)) && (!(decide (y.2 = .free)) || (decide (kd y.1 = some .cell) || decide (kd y.1 = some .free)))) &&
    (tg.ids.all (fun i => vars[i]?.any fun x => decide (scope.names.lookup x = some .local)) &&
    (List.range vars.length).all (fun i => vars[i]?.all fun x => !(decide (scope.names.lookup x = some .local)) || decide (i ∈ tg.ids)))))
noncomputable def gen1 (e : Expr) (g : Comprehension → Bool) : Bool := isT 14 e && (match (view e).gens with
  | [] => false
  | c :: r => r.isEmpty && (decide (c.is_async = 0) && g c))
noncomputable def ckComp (vars : List Str) (f : CkE) (kd : Kd) (tg : Tgt) (a b : X) (e : Expr) : Bool :=
  gen1 e fun c => c.ifs.isEmpty && (ckScope vars kd (view e).sc tg && (notSet c.iter && (f kd c.iter a && (ckTgt vars (kdIn (view e).sc kd) c.target tg && f (kdIn (view e).sc kd) (view e).a b))))
noncomputable def ckCompIf (vars : List Str) (f : CkE) (kd : Kd) (tg : Tgt) (a c b : X) (e : Expr) : Bool :=
  gen1 e fun g => is1 g.ifs fun t => ckScope vars kd (view e).sc tg && (notSet g.iter && (f kd g.iter a && (ckTgt vars (kdIn (view e).sc kd) g.target tg && (f (kdIn (view e).sc kd) t c && f (kdIn (view e).sc kd) (view e).a b))))

noncomputable def ckX (vars : List Str) (cs : List (Str × V)) (ids : List (Str × Nat)) (f : CkE) (kd : Kd) (e : Expr) : X → Bool
  | .var i => ckVar vars kd i e
  | .cst v => ckCst v e
  | .gl y v => ckGl cs kd y v e
  | .bin o a b => ckBin f kd o a b e
  | .cmp o a b => ckCmp f kd o a b e
  | .cmp2 o p a b c => ckCmp2 f kd o p a b c e
  | .and a b => ckBool f kd (.and a b) e
  | .or a b => ckBool f kd (.or a b) e
  | .not a => ckNot f kd a e
  | .sub a b => ckSub f kd a b e
  | .slc a b c => ckSlc f kd a b c e
  | .rev a => ckRev f kd a e
  | .list xs => ckList f kd xs e
  | .tup xs => ckTup f kd xs e
  | .dict0 => ckDict0 e
  | .dict1 a b => ckDict1 f kd a b e
  | .comp t a b => ckComp vars f kd t a b e
  | .compIf t a c b => ckCompIf vars f kd t a c b e
  | .call i xs => ckCall ids f kd i xs e
  | .len a => ckC1 f kd "len" a e
  | .listOf a => ckC1 f kd "list" a e
  | .dictOf a => ckC1 f kd "dict" a e
  | .tupleOf _ => false
  | .isi a t => ckIsi f kd a t e
  | .max2 a b => ckC2 f kd "max" a b e
  | .minOf a => ckC1 f kd "min" a e
  | .sorted _ => false
  | .rng1 a => ckC1 f kd "range" a e
  | .rng2 a b => ckC2 f kd "range" a b e
  | .append a b => ckM1 f kd "append" a b e
  | .insert0 a b => ckIns f kd a b e
  | .pop _ => false
  | .get1 a b => ckM1 f kd "get" a b e
  | .get2 a b c => ckM2 f kd "get" a b c e
noncomputable def ckE (vars : List Str) (cs : List (Str × V)) (ids : List (Str × Nat)) : Nat → CkE
  | 0 => fun _ _ _ => false
  | n + 1 => fun kd e x => ckX vars cs ids (ckE vars cs ids n) kd e x

abbrev CkS := Stmt → Mine.S → Bool
noncomputable def ckSs (g : CkS) : List Stmt → List Mine.S → Bool
  | [], xs => xs.isEmpty
  | s :: ss, xs => match xs with
    | [] => false
    | x :: xs => g s x && ckSs g ss xs
noncomputable def ckExprS (f : CkE) (kd : Kd) (a : X) (s : Stmt) : Bool := isS 1 s && (notComp (sview s).a && f kd (sview s).a a)
noncomputable def isComp : X → Bool
  | .comp .. => true
  | .compIf .. => true
  | _ => false
noncomputable def ckAsgV (vars : List Str) (f : CkE) (kd : Kd) (a : X) (e : Expr) : Bool :=
  match a with
  | .comp tg it b => ckComp vars f kd tg it b e
  | .compIf tg it c b => ckCompIf vars f kd tg it c b e
  | _ => false
noncomputable def ckAsg (vars : List Str) (f : CkE) (kd : Kd) (t : Tgt) (a : X) (s : Stmt) : Bool := isS 2 s && is1 (sview s).es fun g => match t with
  | .one i => isT 1 g && (decide (vars[i]? = some (view g).s) && (isLc kd (view g).s && (ckAsgV vars f kd a (sview s).a || (notComp (sview s).a && f kd (sview s).a a))))
  | .many is => isT 10 g && (ckNames vars kd (view g).es is && (notComp (sview s).a && (notTupE (sview s).a && f kd (sview s).a a)))
noncomputable def ckSet (f : CkE) (kd : Kd) (a b c : X) (s : Stmt) : Bool := isS 2 s && is1 (sview s).es fun g => isT 7 g && (notComp (sview s).a && (f kd (view g).a a && (f kd (view g).b b && f kd (sview s).a c)))
noncomputable def ckRet (f : CkE) (kd : Kd) (a : X) (s : Stmt) : Bool := isS 3 s && (match (sview s).o with
  | some e => f kd e a
  | none => false)
noncomputable def ckIf (f : CkE) (g : CkS) (kd : Kd) (c : X) (xs ys : List Mine.S) (s : Stmt) : Bool := isS 4 s && (f kd (sview s).a c && (ckSs g (sview s).ss xs && ckSs g (sview s).ts ys))
noncomputable def ckFor (vars : List Str) (f : CkE) (g : CkS) (kd : Kd) (t : Tgt) (a : X) (xs : List Mine.S) (s : Stmt) : Bool := isS 5 s && ((sview s).ts.isEmpty && (ckTgt vars kd (sview s).a t && (notSet (sview s).b && (f kd (sview s).b a && ckSs g (sview s).ss xs))))
noncomputable def ckWhile (f : CkE) (g : CkS) (kd : Kd) (c : X) (xs : List Mine.S) (s : Stmt) : Bool := isS 6 s && ((sview s).ts.isEmpty && (f kd (sview s).a c && ckSs g (sview s).ss xs))
noncomputable def ckY (vars : List Str) (f : CkE) (kd : Kd) (g : CkS) (s : Stmt) : Mine.S → Bool
  | .expr a => ckExprS f kd a s
  | .asg t a => ckAsg vars f kd t a s
  | .setItem a b c => ckSet f kd a b c s
  | .ret a => ckRet f kd a s
  | .ite c xs ys => ckIf f g kd c xs ys s
  | .for t a xs => ckFor vars f g kd t a xs s
  | .forEnum _ _ _ => false
  | .while c xs => ckWhile f g kd c xs s
  | .stop => true
noncomputable def ckS (vars : List Str) (f : CkE) (kd : Kd) : Nat → CkS
  | 0 => fun _ _ => false
  | n + 1 => fun s x => ckY vars f kd (ckS vars f kd n) s x

section
variable {prog : Program} {w : World} {B : Shared} {vars : List Str} {S : Spec} {n : Nat} {G : Gl} {kd : Kd} {e : Expr}

theorem isGl_of {x : Str} (h : isGl kd x = true) : kd x = some .globalImplicit := of_decide_eq_true h
theorem isLc_of {x : Str} (h : isLc kd x = true) : kd x = some .local ∨ kd x = some .cell := by
  rcases Bool.or_eq_true_iff.mp h with h | h
  · exact .inl (of_decide_eq_true h)
  · exact .inr (of_decide_eq_true h)
theorem sameOp_of {o : BOp} : (o, o.real) ∈ [(BOp.add, Operator.Add), (.sub, .Sub), (.mul, .Mult), (.fdiv, .FloorDiv), (.mod, .Mod)] := by
  cases o with
  | add => exact .head _
  | sub => exact .tail _ (.head _)
  | mul => exact .tail _ (.tail _ (.head _))
  | fdiv => exact .tail _ (.tail _ (.tail _ (.head _)))
  | mod => exact .tail _ (.tail _ (.tail _ (.tail _ (.head _))))
theorem const_inj {u v : V} (hu : (!isRef u) = true) (hv : (!isRef v) = true) (h : u.const = v.const) : u = v := by
  cases u with
  | none => cases v with | none => rfl | tup => cases hv | rng => cases hv | ref => cases hv | _ => cases h
  | bool => cases v with | bool => cases h; rfl | tup => cases hv | rng => cases hv | ref => cases hv | _ => cases h
  | int => cases v with | int => cases h; rfl | tup => cases hv | rng => cases hv | ref => cases hv | _ => cases h
  | str => cases v with | str => cases h; rfl | tup => cases hv | rng => cases hv | ref => cases hv | _ => cases h
  | _ => cases hu

/-- what the check of an expression says -/
noncomputable def OKE (prog : Program) (w : World) (B : Shared) (vars : List Str) (S : Spec) (n : Nat) (f : CkE) : Prop := ∀ kd e x, f kd e x = true → SoundE prog w B vars S n kd e x

theorem ckVar_ok {i : Nat} (h : ckVar vars kd i e = true) : SoundE prog w B vars S n kd e (.var i) := by
  obtain ⟨h0, h⟩ := and2 h
  obtain ⟨h1, h⟩ := and2 h
  obtain ⟨h2, h⟩ := and2 h
  obtain ⟨h3, h4⟩ := and2 h
  rw [view_at h0 rfl]
  refine .var (of_decide_eq_true h1) ?_ (not_of h3) (not_of h4)
  rcases Bool.or_eq_true_iff.mp h2 with h2 | h2
  · rcases isLc_of h2 with h2 | h2
    · exact .inl h2
    · exact .inr (.inl h2)
  · exact .inr (.inr (of_decide_eq_true h2))
theorem ckNeg_ok {v : V} (h : ckNeg v e = true) : ∃ i k p q, v = .int (-i) ∧ e = .UnaryOp .USub (.Constant (.int i) k p) q := by
  obtain ⟨h0, h⟩ := and2 h
  obtain ⟨h1, h⟩ := and2 h
  obtain ⟨h2, h⟩ := and2 h
  cases v with
  | int j =>
    refine ⟨-j, (view (view e).a).k, (view (view e).a).p, (view e).p, by rw [Int.neg_neg], ?_⟩
    refine (view_at h0 rfl).trans ?_
    rw [of_decide_eq_true h1]
    congr 1
    refine (view_at h2 rfl).trans ?_
    rw [of_decide_eq_true h]
  | _ => cases h
theorem ckCst_ok {v : V} (h : ckCst v e = true) : SoundE prog w B vars S n kd e (.cst v) := by
  rcases Bool.or_eq_true_iff.mp h with h | h
  · obtain ⟨h0, h⟩ := and2 h
    obtain ⟨h1, h⟩ := and2 h
    rw [view_at h0 rfl, of_decide_eq_true h]
    cases v with
    | none => exact .cNone
    | bool => exact .cBool
    | int => exact .cInt
    | str => exact .cStr
    | _ => cases h1
  · obtain ⟨i, k, p, q, rfl, rfl⟩ := ckNeg_ok h
    exact .cNeg
theorem ckGl_ok {cs : List (Str × V)} {mg mb} (T : TopOK B G mg mb) (hc : G.consts = cs) {x : Str} {v : V} (h : ckGl cs kd x v e = true) : SoundE prog w B vars S n kd e (.gl x v) := by
  obtain ⟨h0, h⟩ := and2 h
  obtain ⟨h1, h⟩ := and2 h
  obtain ⟨h2, h⟩ := and2 h
  obtain ⟨h3, h⟩ := and2 h
  obtain ⟨h4, h⟩ := and2 h
  obtain ⟨h5, h⟩ := and2 h
  rw [view_at h0 rfl, beq_iff_eq.mp h1]
  cases hl : cs.lookup x with
  | none => rw [hl] at h; cases h
  | some u =>
    rw [hl] at h
    obtain ⟨h6, h7⟩ := and2 h
    rw [const_inj h6 h5 (of_decide_eq_true h7), ← hc] at hl
    exact .gl T hl h4 (isGl_of h2) (not_of h3)

section
variable {f : CkE} (hf : OKE prog w B vars S n f)
include hf
theorem ckBin_ok {o : BOp} {a b : X} (h : ckBin f kd o a b e = true) : SoundE prog w B vars S n kd e (.bin o a b) := by
  obtain ⟨h0, h⟩ := and2 h
  obtain ⟨h1, h⟩ := and2 h
  obtain ⟨h2, h3⟩ := and2 h
  rw [view_at h0 rfl, of_decide_eq_true h1]
  exact .bin sameOp_of (hf _ _ _ h2) (hf _ _ _ h3)
theorem ckCmp_ok {mg mb} (T : TopOK B G mg mb) {o : COp} {a b : X} (h : ckCmp f kd o a b e = true) : SoundE prog w B vars S n kd e (.cmp o a b) := by
  obtain ⟨h0, h⟩ := and2 h
  obtain ⟨h1, h⟩ := and2 h
  obtain ⟨r, hr, h⟩ := is1_of h
  obtain ⟨h2, h⟩ := and2 h
  obtain ⟨h3, h4⟩ := and2 h
  rw [view_at h0 rfl, of_decide_eq_true h1, hr]
  exact .cmp T (hf _ _ _ h3) (hf _ _ _ h4) h2
theorem ckCmp2_ok {mg mb} (T : TopOK B G mg mb) {o p : COp} {a b c : X} (h : ckCmp2 f kd o p a b c e = true) : SoundE prog w B vars S n kd e (.cmp2 o p a b c) := by
  obtain ⟨h0, h⟩ := and2 h
  obtain ⟨h1, h⟩ := and2 h
  obtain ⟨r, t, hr, h⟩ := is2_of h
  obtain ⟨h2, h⟩ := and2 h
  obtain ⟨h3, h⟩ := and2 h
  obtain ⟨h4, h5⟩ := and2 h
  rw [view_at h0 rfl, of_decide_eq_true h1, hr]
  exact .cmp2 T (hf _ _ _ h3) (hf _ _ _ h4) (hf _ _ _ h5) h2
theorem ckBs_ok {op : BoolOp} : ∀ {es : List Expr} {x : X}, ckBs f kd (decide (op = .And)) es x = true → SoundB prog w B vars S n kd op es x
  | [], _, h => by cases h
  | e :: es, x, h => by
    have h' : (match es.isEmpty with | true => f kd e x | false => match x.two (decide (op = .And)) with | some (y, z) => f kd e y && ckBs f kd (decide (op = .And)) es z | none => false) = true := h
    cases es with
    | nil => exact .one (hf _ _ _ h')
    | cons e' es =>
      cases ht : x.two (decide (op = .And)) with
      | none => rw [ht] at h'; cases h'
      | some q =>
        rw [ht] at h'
        obtain ⟨h1, h2⟩ := and2 h'
        cases op with
        | And =>
          have hx : x = .and q.1 q.2 := by
            cases x with
            | and => cases ht; rfl
            | _ => cases ht
          rw [hx]
          exact .and (hf _ _ _ h1) (ckBs_ok h2)
        | Or =>
          have hx : x = .or q.1 q.2 := by
            cases x with
            | or => cases ht; rfl
            | _ => cases ht
          rw [hx]
          exact .or (hf _ _ _ h1) (ckBs_ok h2)
theorem ckBool_ok {x : X} (h : ckBool f kd x e = true) : SoundE prog w B vars S n kd e x := by
  obtain ⟨h0, h⟩ := and2 h
  rw [view_at h0 rfl]
  exact .boolop (ckBs_ok hf h)
theorem ckNot_ok {a : X} (h : ckNot f kd a e = true) : SoundE prog w B vars S n kd e (.not a) := by
  obtain ⟨h0, h⟩ := and2 h
  obtain ⟨h1, h2⟩ := and2 h
  rw [view_at h0 rfl, of_decide_eq_true h1]
  exact .not (hf _ _ _ h2)
theorem ckSub_ok {mg mb} (T : TopOK B G mg mb) {a b : X} (h : ckSub f kd a b e = true) : SoundE prog w B vars S n kd e (.sub a b) := by
  obtain ⟨h0, h⟩ := and2 h
  obtain ⟨h1, h2⟩ := and2 h
  rw [view_at h0 rfl]
  exact .sub T (hf _ _ _ h1) (hf _ _ _ h2)
theorem ckEnd_ok {o : Option Expr} {x : X} (h : ckEnd f kd o x = true) : SoundP prog w B vars S n kd o x := by
  cases o with
  | some e => exact .some (hf _ _ _ h)
  | none =>
    cases x with
    | cst v =>
      cases v with
      | none => exact .none
      | _ => cases h
    | _ => cases h
omit hf in
theorem none_of {α : Type} {o : Option α} (h : o.isNone = true) : o = none := by cases o with | none => rfl | some => cases h
theorem ckSlc_ok {a b c : X} (h : ckSlc f kd a b c e = true) : SoundE prog w B vars S n kd e (.slc a b c) := by
  obtain ⟨h0, h⟩ := and2 h
  obtain ⟨h1, h⟩ := and2 h
  obtain ⟨h2, h⟩ := and2 h
  obtain ⟨h3, h⟩ := and2 h
  obtain ⟨h4, h5⟩ := and2 h
  rw [view_at h0 rfl, view_at h1 rfl, none_of h2]
  exact .slc (hf _ _ _ h3) (ckEnd_ok hf h4) (ckEnd_ok hf h5)
theorem ckRev_ok {a : X} (h : ckRev f kd a e = true) : SoundE prog w B vars S n kd e (.rev a) := by
  obtain ⟨h0, h⟩ := and2 h
  obtain ⟨h1, h⟩ := and2 h
  obtain ⟨h2, h⟩ := and2 h
  obtain ⟨h3, h⟩ := and2 h
  obtain ⟨h4, h⟩ := and2 h
  cases ho : (view (view e).b).o3 with
  | none => rw [ho] at h; cases h
  | some u =>
    rw [ho] at h
    obtain ⟨i, k, p, q, hi, hu⟩ := ckNeg_ok h
    injection hi with hi
    have : i = 1 := by omega
    subst this
    rw [view_at h0 rfl, view_at h1 rfl, none_of h2, none_of h3, ho, hu]
    exact .rev (hf _ _ _ h4)
theorem ckEs_ok : ∀ {es : List Expr} {xs : List X}, ckEs f kd es xs = true → SoundEs prog w B vars S n kd es xs ∧ es.all (fun e => !starred e) = true
  | [], xs, h => by
    have h' : xs.isEmpty = true := h
    rw [nil_of h']; exact ⟨.nil, rfl⟩
  | e :: es, [], h => by cases h
  | e :: es, x :: xs, h => by
    obtain ⟨h1, h⟩ := and2 (show (!starred e && (f kd e x && ckEs f kd es xs)) = true from h)
    obtain ⟨h2, h3⟩ := and2 h
    obtain ⟨i1, i2⟩ := ckEs_ok h3
    exact ⟨.cons (hf _ _ _ h2) i1 (not_of h1), by rw [List.all_cons, h1, i2]; rfl⟩
theorem ckList_ok {xs : List X} (h : ckList f kd xs e = true) : SoundE prog w B vars S n kd e (.list xs) := by
  obtain ⟨h0, h⟩ := and2 h
  obtain ⟨h1, h2⟩ := and2 h
  rw [view_at h0 rfl]
  exact .list (ckEs_ok hf h2).1 (of_decide_eq_true h1)
theorem ckTup_ok {xs : List X} (h : ckTup f kd xs e = true) : SoundE prog w B vars S n kd e (.tup xs) := by
  obtain ⟨h0, h⟩ := and2 h
  obtain ⟨h1, h2⟩ := and2 h
  rw [view_at h0 rfl]
  exact .tup (ckEs_ok hf h2).1 (of_decide_eq_true h1)
theorem ckDict0_ok (h : ckDict0 e = true) : SoundE prog w B vars S n kd e .dict0 := by
  obtain ⟨h0, h⟩ := and2 h
  obtain ⟨h1, h2⟩ := and2 h
  rw [view_at h0 rfl, nil_of h1, nil_of h2]
  exact .dict0
theorem ckDict1_ok {a b : X} (h : ckDict1 f kd a b e = true) : SoundE prog w B vars S n kd e (.dict1 a b) := by
  obtain ⟨h0, h⟩ := and2 h
  obtain ⟨v, hv, h⟩ := is1_of h
  cases ho : (view e).os with
  | nil => rw [ho] at h; cases h
  | cons o r =>
    rw [ho] at h
    obtain ⟨h1, h⟩ := and2 h
    cases o with
    | none => cases h
    | some k =>
      obtain ⟨h2, h3⟩ := and2 h
      rw [view_at h0 rfl, hv, ho, nil_of h1]
      exact .dict1 (hf _ _ _ h2) (hf _ _ _ h3)
omit hf in
theorem nm_of {x : Str} (h : nm e kd x = true) : ∃ p q, e = .Call (.Name x p) (view e).es [] q ∧ kd x = some .globalImplicit := by
  obtain ⟨h0, h⟩ := and2 h
  obtain ⟨h1, h⟩ := and2 h
  obtain ⟨h2, h⟩ := and2 h
  obtain ⟨h3, h4⟩ := and2 h
  refine ⟨(view (view e).a).p, (view e).p, ?_, isGl_of h4⟩
  have e1 := view_at h0 rfl
  rw [nil_of h1] at e1
  refine e1.trans ?_
  congr 1
  rw [view_at h2 rfl, beq_iff_eq.mp h3]
  rfl
theorem ckC1_ok {x : Str} {a : X} (h : ckC1 f kd x a e = true) : ∃ p e' pos, e = .Call (.Name x p) [e'] [] pos ∧ kd x = some .globalImplicit ∧ starred e' = false ∧ SoundE prog w B vars S n kd e' a := by
  obtain ⟨h0, h⟩ := and2 h
  obtain ⟨y, hy, h⟩ := is1_of h
  obtain ⟨p, q, h1, h2⟩ := nm_of h0
  obtain ⟨h3, h4⟩ := and2 h
  exact ⟨p, y, q, by rw [hy] at h1; exact h1, h2, not_of h3, hf _ _ _ h4⟩
theorem ckC2_ok {x : Str} {a b : X} (h : ckC2 f kd x a b e = true) : ∃ p e' e'' pos, e = .Call (.Name x p) [e', e''] [] pos ∧ kd x = some .globalImplicit ∧ starred e' = false ∧ starred e'' = false ∧ SoundE prog w B vars S n kd e' a ∧ SoundE prog w B vars S n kd e'' b := by
  obtain ⟨h0, h⟩ := and2 h
  obtain ⟨y, z, hy, h⟩ := is2_of h
  obtain ⟨p, q, h1, h2⟩ := nm_of h0
  obtain ⟨h3, h⟩ := and2 h
  obtain ⟨h4, h⟩ := and2 h
  obtain ⟨h5, h6⟩ := and2 h
  exact ⟨p, y, z, q, by rw [hy] at h1; exact h1, h2, not_of h3, not_of h4, hf _ _ _ h5, hf _ _ _ h6⟩
omit hf in
theorem ty_look (t : Ty) : biTab.lookup (Str.ofString t.name) = some (.type t.name) := by cases t <;> rfl
theorem ckIsi_ok {mg mb} (T : TopOK B G mg mb) {a : X} {t : Ty} (h : ckIsi f kd a t e = true) : SoundE prog w B vars S n kd e (.isi a t) := by
  obtain ⟨h0, h⟩ := and2 h
  obtain ⟨y, z, hy, h⟩ := is2_of h
  obtain ⟨p, q, h1, h2⟩ := nm_of h0
  obtain ⟨h3, h⟩ := and2 h
  obtain ⟨h4, h⟩ := and2 h
  obtain ⟨h5, h⟩ := and2 h
  obtain ⟨h6, h7⟩ := and2 h
  rw [h1, hy, view_at h3 rfl, beq_iff_eq.mp h4]
  exact .isi T h2 (ty_look _) (isGl_of h5) (hf _ _ _ h7) (not_of h6)
omit hf in
theorem mt_of {x : Str} (h : mt e x = true) : ∃ ap q, e = .Call (.Attribute (view (view e).a).a x ap) (view e).es [] q ∧ plainBase (view (view e).a).a = true ∧ (ap.endLine == q.line) = true := by
  obtain ⟨h0, h⟩ := and2 h
  obtain ⟨h1, h⟩ := and2 h
  obtain ⟨h2, h⟩ := and2 h
  obtain ⟨h3, h⟩ := and2 h
  obtain ⟨h4, h5⟩ := and2 h
  refine ⟨(view (view e).a).p, (view e).p, ?_, h4, h5⟩
  have e1 := view_at h0 rfl
  rw [nil_of h1] at e1
  refine e1.trans ?_
  congr 1
  exact (view_at h2 rfl).trans (by rw [beq_iff_eq.mp h3])
theorem ckM1_ok {x : Str} {a b : X} (h : ckM1 f kd x a b e = true) : ∃ o e' ap pos, e = .Call (.Attribute o x ap) [e'] [] pos ∧ plainBase o = true ∧ starred e' = false ∧ (ap.endLine == pos.line) = true ∧ SoundE prog w B vars S n kd o a ∧ SoundE prog w B vars S n kd e' b := by
  obtain ⟨h0, h⟩ := and2 h
  obtain ⟨y, hy, h⟩ := is1_of h
  obtain ⟨p, q, h1, h2, h3⟩ := mt_of h0
  obtain ⟨h4, h⟩ := and2 h
  obtain ⟨h5, h6⟩ := and2 h
  exact ⟨_, y, p, q, by rw [hy] at h1; exact h1, h2, not_of h4, h3, hf _ _ _ h5, hf _ _ _ h6⟩
theorem ckM2_ok {x : Str} {a b c : X} (h : ckM2 f kd x a b c e = true) : ∃ o e' e'' ap pos, e = .Call (.Attribute o x ap) [e', e''] [] pos ∧ plainBase o = true ∧ starred e' = false ∧ starred e'' = false ∧ (ap.endLine == pos.line) = true ∧ SoundE prog w B vars S n kd o a ∧ SoundE prog w B vars S n kd e' b ∧ SoundE prog w B vars S n kd e'' c := by
  obtain ⟨h0, h⟩ := and2 h
  obtain ⟨y, z, hy, h⟩ := is2_of h
  obtain ⟨p, q, h1, h2, h3⟩ := mt_of h0
  obtain ⟨h4, h⟩ := and2 h
  obtain ⟨h4', h⟩ := and2 h
  obtain ⟨h5, h⟩ := and2 h
  obtain ⟨h6, h7⟩ := and2 h
  exact ⟨_, y, z, p, q, by rw [hy] at h1; exact h1, h2, not_of h4, not_of h4', h3, hf _ _ _ h5, hf _ _ _ h6, hf _ _ _ h7⟩
theorem ckIns_ok {a b : X} (h : ckIns f kd a b e = true) : SoundE prog w B vars S n kd e (.insert0 a b) := by
  obtain ⟨h0, h⟩ := and2 h
  obtain ⟨y, z, hy, h⟩ := is2_of h
  obtain ⟨p, q, h1, h2, h3⟩ := mt_of h0
  obtain ⟨h4, h⟩ := and2 h
  obtain ⟨h5, h⟩ := and2 h
  obtain ⟨h6, h7⟩ := and2 h
  obtain ⟨h8, h9⟩ := and2 h4
  rw [hy, view_at h8 rfl, of_decide_eq_true h9] at h1
  rw [h1]
  exact .insert0 (hf _ _ _ h6) (hf _ _ _ h7) h2 (not_of h5) h3
theorem ckCall_ok {ids : List (Str × Nat)} {mg mb} (T : TopOK B G mg mb) (K : SpecOK prog w B S n G) (hi : ∀ y i, ids.lookup y = some i → ∃ a, G.fns.lookup y = some (i, a)) {i : Nat} {xs : List X} (h : ckCall ids f kd i xs e = true) : SoundE prog w B vars S n kd e (.call i xs) := by
  obtain ⟨h0, h⟩ := and2 h
  obtain ⟨h1, h⟩ := and2 h
  obtain ⟨h2, h⟩ := and2 h
  obtain ⟨h3, h⟩ := and2 h
  obtain ⟨h4, h⟩ := and2 h
  obtain ⟨h5, h⟩ := and2 h
  obtain ⟨h6, h7⟩ := and2 h
  obtain ⟨a, ha⟩ := hi _ _ (of_decide_eq_true h3)
  rw [view_at h0 rfl, view_at h2 rfl, nil_of h1]
  exact .call T K ha (isGl_of h4) (not_of h5) (ckEs_ok hf h7).1 (fun z => by rw [z] at h6; cases h6) (ckEs_ok hf h7).2
end
theorem ckNames_ok : ∀ {es : List Expr} {is : List Nat}, ckNames vars kd es is = true → Names vars kd es is
  | [], is, h => by
    have h' : is.isEmpty = true := h
    rw [nil_of h']; exact .nil
  | e :: es, [], h => by cases h
  | e :: es, i :: is, h => by
    obtain ⟨h0, h⟩ := and2 (show (isT 1 e && (decide (vars[i]? = some (view e).s) && (isLc kd (view e).s && ckNames vars kd es is))) = true from h)
    obtain ⟨h1, h⟩ := and2 h
    obtain ⟨h2, h3⟩ := and2 h
    rw [view_at h0 rfl]
    exact .cons (of_decide_eq_true h1) (isLc_of h2) (ckNames_ok h3)
theorem ckTgt_ok {tg : Tgt} (hn : vars.Nodup) (h : ckTgt vars kd e tg = true) : SoundT prog w B vars kd e tg := by
  cases tg with
  | one i =>
    obtain ⟨h0, h⟩ := and2 h
    obtain ⟨h1, h2⟩ := and2 h
    rw [view_at h0 rfl]
    exact .one hn (of_decide_eq_true h1) (isLc_of h2)
  | many is =>
    obtain ⟨h0, h⟩ := and2 h
    rw [view_at h0 rfl]
    exact .many hn (ckNames_ok h)
theorem ckScope_ok {scope : Scope} {tg : Tgt} (h : ckScope vars kd scope tg = true) : CompOK vars kd scope tg := by
  obtain ⟨h1, h⟩ := and2 h
  obtain ⟨h2, h⟩ := and2 h
  obtain ⟨h3, h⟩ := and2 h
  obtain ⟨h4, h5⟩ := and2 h
  rw [List.all_eq_true] at h3 h4 h5
  refine ⟨of_decide_eq_true h1, of_decide_eq_true h2, fun y hy => of_decide_eq_false (not_of (and2 (h3 y hy)).1), fun y hy hf => ?_, fun i hi => ?_, fun i x hx hl => ?_⟩
  · rcases Bool.or_eq_true_iff.mp (and2 (h3 y hy)).2 with h | h
    · exact absurd hf (of_decide_eq_false (not_of h))
    · rcases Bool.or_eq_true_iff.mp h with h | h
      · exact .inl (of_decide_eq_true h)
      · exact .inr (of_decide_eq_true h)
  · have := h4 i hi
    cases hv : vars[i]? with
    | none => rw [hv] at this; cases this
    | some x => rw [hv] at this; exact ⟨x, rfl, of_decide_eq_true this⟩
  · have hlt : i < vars.length := (List.getElem?_eq_some_iff.mp hx).1
    have := h5 i (List.mem_range.mpr hlt)
    rw [hx] at this
    rcases Bool.or_eq_true_iff.mp this with h | h
    · exact absurd hl (of_decide_eq_false (not_of h))
    · exact of_decide_eq_true h
theorem gen1_of {g : Comprehension → Bool} (h : gen1 e g = true) : ∃ c p, e = .ListComp (view e).a [c] (view e).sc p ∧ c.is_async = 0 ∧ g c = true := by
  obtain ⟨h0, h⟩ := and2 h
  cases hg : (view e).gens with
  | nil => rw [hg] at h; cases h
  | cons c r =>
    rw [hg] at h
    obtain ⟨h1, h⟩ := and2 h
    obtain ⟨h2, h3⟩ := and2 h
    refine ⟨c, (view e).p, ?_, of_decide_eq_true h2, h3⟩
    have e1 := view_at h0 rfl
    rw [hg, nil_of h1] at e1
    exact e1
section
variable {f : CkE} (hf : OKE prog w B vars S n f) (hn : vars.Nodup)
include hf hn
theorem ckComp_ok {tg : Tgt} {a b : X} (h : ckComp vars f kd tg a b e = true) :
    ∃ elt target iter scope pos, e = .ListComp elt [⟨target, iter, [], 0⟩] scope pos ∧ CompOK vars kd scope tg ∧ notSet iter = true ∧ SoundE prog w B vars S n kd iter a ∧ SoundT prog w B vars (kdIn scope kd) target tg ∧ SoundE prog w B vars S n (kdIn scope kd) elt b := by
  obtain ⟨⟨t, i, fs, as⟩, p, h1, h2, h⟩ := gen1_of h
  obtain ⟨h3, h⟩ := and2 h
  obtain ⟨h4, h⟩ := and2 h
  obtain ⟨h5, h⟩ := and2 h
  obtain ⟨h6, h⟩ := and2 h
  obtain ⟨h7, h8⟩ := and2 h
  have h3' : fs = [] := nil_of h3
  have h2' : as = 0 := h2
  subst h3'; subst h2'
  exact ⟨_, t, i, _, p, h1, ckScope_ok h4, h5, hf _ _ _ h6, ckTgt_ok hn h7, hf _ _ _ h8⟩
theorem ckCompIf_ok {tg : Tgt} {a c b : X} (h : ckCompIf vars f kd tg a c b e = true) :
    ∃ elt target iter t scope pos, e = .ListComp elt [⟨target, iter, [t], 0⟩] scope pos ∧ CompOK vars kd scope tg ∧ notSet iter = true ∧ SoundE prog w B vars S n kd iter a ∧ SoundT prog w B vars (kdIn scope kd) target tg ∧ SoundE prog w B vars S n (kdIn scope kd) t c ∧ SoundE prog w B vars S n (kdIn scope kd) elt b := by
  obtain ⟨⟨t, i, fs, as⟩, p, h1, h2, h⟩ := gen1_of h
  obtain ⟨u, h3, h⟩ := is1_of h
  obtain ⟨h4, h⟩ := and2 h
  obtain ⟨h5, h⟩ := and2 h
  obtain ⟨h6, h⟩ := and2 h
  obtain ⟨h7, h⟩ := and2 h
  obtain ⟨h8, h9⟩ := and2 h
  have h3' : fs = [u] := h3
  have h2' : as = 0 := h2
  subst h3'; subst h2'
  exact ⟨_, t, i, u, _, p, h1, ckScope_ok h4, h5, hf _ _ _ h6, ckTgt_ok hn h7, hf _ _ _ h8, hf _ _ _ h9⟩
end

theorem ckX_ok {cs : List (Str × V)} {ids : List (Str × Nat)} {mg mb} (T : TopOK B G mg mb) (K : SpecOK prog w B S n G) (hc : G.consts = cs) (hi : ∀ y i, ids.lookup y = some i → ∃ a, G.fns.lookup y = some (i, a)) (hn : vars.Nodup) {f : CkE} (hf : OKE prog w B vars S n f) {x : X} (h : ckX vars cs ids f kd e x = true) : SoundE prog w B vars S n kd e x := by
  cases x with
  | var i => exact ckVar_ok h
  | cst v => exact ckCst_ok h
  | gl y v => exact ckGl_ok T hc h
  | bin o a b => exact ckBin_ok hf h
  | cmp o a b => exact ckCmp_ok hf T h
  | cmp2 o p a b c => exact ckCmp2_ok hf T h
  | and a b => exact ckBool_ok hf h
  | or a b => exact ckBool_ok hf h
  | not a => exact ckNot_ok hf h
  | sub a b => exact ckSub_ok hf T h
  | slc a b c => exact ckSlc_ok hf h
  | rev a => exact ckRev_ok hf h
  | list xs => exact ckList_ok hf h
  | tup xs => exact ckTup_ok hf h
  | dict0 => exact ckDict0_ok hf h
  | dict1 a b => exact ckDict1_ok hf h
  | comp t a b =>
    obtain ⟨_, _, _, _, _, rfl, h1, h2, h3, h4, h5⟩ := ckComp_ok hf hn h
    exact .comp h1 h3 h4 h5 h2
  | compIf t a c b =>
    obtain ⟨_, _, _, _, _, _, rfl, h1, h2, h3, h4, h5, h6⟩ := ckCompIf_ok hf hn h
    exact .compIf h1 h3 h4 h5 h6 h2
  | call i xs => exact ckCall_ok hf T K hi h
  | len a =>
    obtain ⟨_, _, _, rfl, h1, h2, h3⟩ := ckC1_ok hf h
    exact .len T h1 h3 h2
  | listOf a =>
    obtain ⟨_, _, _, rfl, h1, h2, h3⟩ := ckC1_ok hf h
    exact .listOf T h1 h3 h2
  | dictOf a =>
    obtain ⟨_, _, _, rfl, h1, h2, h3⟩ := ckC1_ok hf h
    exact .dictOf T h1 h3 h2
  | isi a t => exact ckIsi_ok hf T h
  | max2 a b =>
    obtain ⟨_, _, _, _, rfl, h1, h2, h3, h4, h5⟩ := ckC2_ok hf h
    exact .max2 T h1 h4 h5 h2 h3
  | rng1 a =>
    obtain ⟨_, _, _, rfl, h1, h2, h3⟩ := ckC1_ok hf h
    exact .rng1 T h1 h3 h2
  | rng2 a b =>
    obtain ⟨_, _, _, _, rfl, h1, h2, h3, h4, h5⟩ := ckC2_ok hf h
    exact .rng2 T h1 h4 h5 h2 h3
  | append a b =>
    obtain ⟨_, _, _, _, rfl, h1, h2, h3, h4, h5⟩ := ckM1_ok hf h
    exact .append h4 h5 h1 h2 h3
  | minOf a =>
    obtain ⟨_, _, _, rfl, h1, h2, h3⟩ := ckC1_ok hf h
    exact .minOf T h1 h3 h2
  | insert0 a b => exact ckIns_ok hf h
  | get2 a b c =>
    obtain ⟨_, _, _, _, _, rfl, h1, h2, h3, h4, h5, h6, h7⟩ := ckM2_ok hf h
    exact .get2 T h5 h6 h7 h1 h2 h3 h4
  | get1 a b =>
    obtain ⟨_, _, _, _, rfl, h1, h2, h3, h4, h5⟩ := ckM1_ok hf h
    exact .get1 T h4 h5 h1 h2 h3
  | _ => cases h
theorem ckE_ok {cs : List (Str × V)} {ids : List (Str × Nat)} {mg mb} (T : TopOK B G mg mb) (K : SpecOK prog w B S n G) (hc : G.consts = cs) (hi : ∀ y i, ids.lookup y = some i → ∃ a, G.fns.lookup y = some (i, a)) (hn : vars.Nodup) : ∀ m, OKE prog w B vars S n (ckE vars cs ids m)
  | 0 => fun _ _ _ h => by cases h
  | m + 1 => fun _ _ _ h => ckX_ok T K hc hi hn (ckE_ok T K hc hi hn m) h

theorem ckSs_ok {g : CkS} (hg : ∀ s x, g s x = true → SoundS prog w B vars S n kd s x) : ∀ {ss : List Stmt} {xs : List Mine.S}, ckSs g ss xs = true → SoundSs prog w B vars S n kd ss xs
  | [], xs, h => by
    have h' : xs.isEmpty = true := h
    rw [nil_of h']; exact .nil
  | _ :: _, [], h => by cases h
  | s :: ss, x :: xs, h => by
    obtain ⟨h1, h2⟩ := and2 (show (g s x && ckSs g ss xs) = true from h)
    exact .cons (hg _ _ h1) (ckSs_ok hg h2)
theorem ckAsg_ok {f : CkE} (hf : OKE prog w B vars S n f) (hn : vars.Nodup) {t : Tgt} {a : X} {s : Stmt} (h : ckAsg vars f kd t a s = true) : SoundS prog w B vars S n kd s (.asg t a) := by
  obtain ⟨h0, h⟩ := and2 h
  obtain ⟨g, hg, h⟩ := is1_of h
  rw [sview_at h0 rfl, hg]
  generalize (sview s).a = e at h ⊢
  generalize (sview s).p = p at h ⊢
  cases t with
  | one i =>
    obtain ⟨h1, h⟩ := and2 h
    obtain ⟨h2, h⟩ := and2 h
    obtain ⟨h3, h⟩ := and2 h
    rw [view_at h1 rfl]
    rcases Bool.or_eq_true_iff.mp h with h | h
    · cases a with
      | comp tg it b =>
        obtain ⟨_, _, _, _, _, rfl, k1, k2, k3, k4, k5⟩ := ckComp_ok hf hn h
        exact .asgComp hn (of_decide_eq_true h2) (isLc_of h3) k1 k3 k4 k5 k2
      | compIf tg it c b =>
        obtain ⟨_, _, _, _, _, _, rfl, k1, k2, k3, k4, k5, k6⟩ := ckCompIf_ok hf hn h
        exact .asgCompIf hn (of_decide_eq_true h2) (isLc_of h3) k1 k3 k4 k5 k6 k2
      | _ => cases h
    · obtain ⟨h4, h5⟩ := and2 h
      exact .asg hn (of_decide_eq_true h2) (isLc_of h3) (hf _ _ _ h5) h4
  | many is =>
    obtain ⟨h1, h⟩ := and2 h
    obtain ⟨h2, h⟩ := and2 h
    obtain ⟨h3, h⟩ := and2 h
    obtain ⟨h4, h5⟩ := and2 h
    rw [view_at h1 rfl]
    exact .asgT hn (ckNames_ok h2) (hf _ _ _ h5) h3 h4
theorem ckY_ok {mg mb} (T : TopOK B G mg mb) {f : CkE} (hf : OKE prog w B vars S n f) (hn : vars.Nodup) {g : CkS} (hg : ∀ s x, g s x = true → SoundS prog w B vars S n kd s x) {s : Stmt} {x : Mine.S} (h : ckY vars f kd g s x = true) : SoundS prog w B vars S n kd s x := by
  cases x with
  | expr a =>
    obtain ⟨h0, h⟩ := and2 h
    obtain ⟨h1, h2⟩ := and2 h
    rw [sview_at h0 rfl]
    exact .expr (hf _ _ _ h2) h1
  | asg t a => exact ckAsg_ok hf hn h
  | setItem a b c =>
    obtain ⟨h0, h⟩ := and2 h
    obtain ⟨t, ht, h⟩ := is1_of h
    obtain ⟨h1, h⟩ := and2 h
    obtain ⟨h2, h⟩ := and2 h
    obtain ⟨h3, h⟩ := and2 h
    obtain ⟨h4, h5⟩ := and2 h
    rw [sview_at h0 rfl, ht, view_at h1 rfl]
    exact .setItem T (hf _ _ _ h3) (hf _ _ _ h4) (hf _ _ _ h5) h2
  | ret a =>
    obtain ⟨h0, h⟩ := and2 h
    cases ho : (sview s).o with
    | none => rw [ho] at h; cases h
    | some e =>
      rw [ho] at h
      rw [sview_at h0 rfl, ho]
      exact .ret (hf _ _ _ h)
  | ite c xs ys =>
    obtain ⟨h0, h⟩ := and2 h
    obtain ⟨h1, h⟩ := and2 h
    obtain ⟨h2, h3⟩ := and2 h
    rw [sview_at h0 rfl]
    exact .ite (hf _ _ _ h1) (ckSs_ok hg h2) (ckSs_ok hg h3)
  | «for» t a xs =>
    obtain ⟨h0, h⟩ := and2 h
    obtain ⟨h1, h⟩ := and2 h
    obtain ⟨h2, h⟩ := and2 h
    obtain ⟨h3, h⟩ := and2 h
    obtain ⟨h4, h5⟩ := and2 h
    rw [sview_at h0 rfl, nil_of h1]
    exact .for T (ckTgt_ok hn h2) (hf _ _ _ h4) (ckSs_ok hg h5) h3
  | forEnum => cases h
  | «while» c xs =>
    obtain ⟨h0, h⟩ := and2 h
    obtain ⟨h1, h⟩ := and2 h
    obtain ⟨h2, h3⟩ := and2 h
    rw [sview_at h0 rfl, nil_of h1]
    exact .while (hf _ _ _ h2) (ckSs_ok hg h3)
  | stop => exact .stop
theorem ckS_ok {mg mb} (T : TopOK B G mg mb) {f : CkE} (hf : OKE prog w B vars S n f) (hn : vars.Nodup) : ∀ m s x, ckS vars f kd m s x = true → SoundS prog w B vars S n kd s x
  | 0, _, _, h => by cases h
  | m + 1, _, _, h => ckY_ok T hf hn (ckS_ok T hf hn m) h

/-- a function's text, checked -/
noncomputable def ckFn (cs : List (Str × V)) (ids : List (Str × Nat)) (vars : List Str) (kd : Kd) (body : List Stmt) (xs : List Mine.S) : Bool := decide vars.Nodup && ckSs (ckS vars (ckE vars cs ids 40) kd 40) body xs
theorem ckFn_ok {cs : List (Str × V)} {ids : List (Str × Nat)} {mg mb} (T : TopOK B G mg mb) (hc : G.consts = cs) (hi : ∀ y i, ids.lookup y = some i → ∃ a, G.fns.lookup y = some (i, a)) {body : List Stmt} {xs : List Mine.S} (h : ckFn cs ids vars kd body xs = true) : vars.Nodup ∧ ∀ S n, SpecOK prog w B S n G → SoundSs prog w B vars S n kd body xs := by
  obtain ⟨h1, h2⟩ := and2 h
  exact ⟨of_decide_eq_true h1, fun S n K => ckSs_ok (ckS_ok T (ckE_ok T K hc hi (of_decide_eq_true h1) 40) (of_decide_eq_true h1) 40) h2⟩
end
end Mine

namespace Mine
open PySem PyProof.Rows PySem.W

theorem zip_look {α : Type} : ∀ {ns : List Str} {vs : List α}, vs.length = ns.length → ∀ x ∈ ns, ((ns.zip vs).lookup x).isSome = true
  | [], _, _, _, h => by cases h
  | n :: ns, [], e, _, _ => by simp at e
  | n :: ns, v :: vs, e, x, h => by
    simp only [List.zip_cons_cons, List.lookup_cons]
    by_cases hx : (x == n) = true
    · simp [hx]
    · simp only [hx]
      rcases List.mem_cons.mp h with rfl | h
      · simp at hx
      · exact zip_look (by simpa using e) x h
theorem zip_map {α : Type} : ∀ {ns : List Str} {vs : List α}, ns.Nodup → vs.length = ns.length → ns.filterMap (fun n => ((ns.zip vs).lookup n).map (n, ·)) = ns.zip vs
  | [], _, _, _ => by simp
  | n :: ns, [], _, e => by simp at e
  | n :: ns, v :: vs, hn, e => by
    rw [List.nodup_cons] at hn
    have ih := zip_map hn.2 (vs := vs) (by simpa using e)
    rw [List.filterMap_cons]
    simp only [List.zip_cons_cons, List.lookup_cons, beq_self_eq_true, Option.map_some]
    congr 1
    have key : ∀ l : List Str, (∀ x ∈ l, x ≠ n) → l.filterMap (fun x => (match x == n with | true => some v | false => (ns.zip vs).lookup x).map (x, ·)) = l.filterMap (fun x => ((ns.zip vs).lookup x).map (x, ·)) := by
      intro l
      induction l with
      | nil => intro _; rfl
      | cons y l ihl =>
        intro h
        have hy : (y == n) = false := by simpa using h y (.head _)
        rw [List.filterMap_cons, List.filterMap_cons, ihl fun x hx => h x (List.mem_cons_of_mem _ hx)]
        simp only [hy]
    exact (key ns fun x hx => by rintro rfl; exact hn.1 hx).trans ih

theorem bind_plain {fd : FuncData} {names : List Str} {vals : List Value} (hpo : fd.params.posonlyargs = []) (hkw : fd.params.kwonlyargs = []) (hva : fd.params.vararg = none) (hka : fd.params.kwarg = none) (hd : fd.defaults = .none)
    (hn : fd.params.args.map (·.arg) = names) (nd : names.Nodup) (hl : vals.length = names.length) : bindArgs fd ⟨vals, []⟩ = pure (names.zip vals) := by
  unfold bindArgs
  simp only [hpo, hkw, hva, hka, hd, hn, List.map_nil, List.nil_append, List.append_nil, List.forIn_nil, hl]
  have hs : seqItems? Value.none = pure none := rfl
  simp only [hs, pure_bind]
  have hm : ∀ k, (names.take k).filter (fun n => ((names.zip vals).lookup n).isNone) = [] := by
    intro k
    rw [List.filter_eq_nil_iff]
    intro x hx
    have := zip_look hl x (List.mem_of_mem_take hx)
    simp [Option.isSome_iff_ne_none] at this ⊢
    exact this
  simp
  refine (if_neg (by rw [hm]; simp)).trans ?_
  rw [zip_map nd hl]

/-- all that is asked of a function's text -/
noncomputable def ckRec (cs : List (Str × V)) (ids : List (Str × Nat)) (d : DefRec) (np : Nat) (vars : List Str) (xs : List Mine.S) : Bool :=
  ckFn cs ids vars (fun x => d.scope.names.lookup x) d.body xs && (!d.scope.isCoroutine && (!d.scope.isGenerator && (decide (d.scope.kind = .function) && (d.params.posonlyargs.isEmpty && (d.params.kwonlyargs.isEmpty && (d.params.vararg.isNone && (d.params.kwarg.isNone &&
    (decide (d.params.args.map (·.arg) = vars.take np) && (decide (np ≤ vars.length) && ((vars.take np).all (fun x => isLc (fun x => d.scope.names.lookup x) x) && d.scope.names.all (fun y => !decide (y.2 = .free))))))))))))

theorem ckRec_ok {prog : Program} {w : World} {B : Shared} {G : Gl} {mg mb} (T : TopOK B G mg mb) {cs : List (Str × V)} {ids : List (Str × Nat)} (hc : G.consts = cs) (hi : ∀ y i, ids.lookup y = some i → ∃ a, G.fns.lookup y = some (i, a)) {d : DefRec} {np : Nat} {vars : List Str} {xs : List Mine.S} (h : ckRec cs ids d np vars xs = true)
    {a : Addr} {o : Obj} {pm code doc : Value} (ho : B.heap.get? a = some o) (hd : o.data = .func (Calls.docDef d.name d.params d.body d.scope pm code doc)) (hcd : B.heap.CodeRec code d.name) : FnAt prog w B G a np xs vars o (Calls.docDef d.name d.params d.body d.scope pm code doc) d.body := by
  obtain ⟨h1, h⟩ := and2 h
  obtain ⟨h4, h⟩ := and2 h
  obtain ⟨h5, h⟩ := and2 h
  obtain ⟨h6, h⟩ := and2 h
  obtain ⟨h9, h⟩ := and2 h
  obtain ⟨h10, h⟩ := and2 h
  obtain ⟨h11, h⟩ := and2 h
  obtain ⟨h12, h⟩ := and2 h
  obtain ⟨h14, h⟩ := and2 h
  obtain ⟨h15, h⟩ := and2 h
  obtain ⟨h16, h17⟩ := and2 h
  obtain ⟨nd, hs⟩ := ckFn_ok (prog := prog) (w := w) T hc hi h1
  rw [List.all_eq_true] at h16 h17
  refine ⟨ho, hd, hcd, rfl, rfl, not_of h4, not_of h5, of_decide_eq_true h6, rfl, rfl, nd, fun vals hl => ?_, fun x hx => isLc_of (h16 x hx), fun y hy => of_decide_eq_false (not_of (h17 y hy)), hs⟩
  refine bind_plain (nil_of h9) (nil_of h10) (none_of h11) (none_of h12) rfl (of_decide_eq_true h14) (nd.sublist (List.take_sublist _ _)) ?_
  rw [hl, List.length_take, Nat.min_eq_left (of_decide_eq_true h15)]
end Mine

namespace Mine
open PySem PyProof.Rows PySem.W

/-- a start of the store: the script alone -/
noncomputable def σ0 (a : Addr) (ns : List Int) : Store := fun b => if b = a then some (.list false (ns.map .int)) else none

theorem ints_rel {h : Heap} {vs : List Value} {ns : List Int} (x : IntsAre vs ns) : VRels h (ns.map .int) vs := by
  induction x with
  | nil => exact .nil
  | cons n t _ ih => exact .cons (by simp [VRel]) ih
theorem ints_len {vs : List Value} {ns : List Int} (x : IntsAre vs ns) : vs.length = ns.length := by
  induction x with
  | nil => rfl
  | cons n t _ ih => simp [ih]

theorem law_call {prog : Program} {w : World} {s₁ : Shared} {G : Gl} {S : Spec} {n : Nat} (hS : SpecOK prog w s₁ S n G) (g : Good callerA n) {x : Str} {i : Nat} {fa a : Addr} (hx : G.fns.lookup x = some (i, fa)) {vs : List Value} {ns : List Int}
    (hL : s₁.heap.IsList a vs.toArray) (hI : IntsAre vs ns) (hlen : ns.length ≤ 63) (hlow : ∃ b o, sysModules < b ∧ s₁.heap.get? b = some o) (q : S i [.ref a] (σ0 a ns) fun v _ => v = .bool true) {R : Result → Shared → Prop}
    (hR : ∀ s', (∀ b o, s₁.heap.get? b = some o → s'.heap.get? b = some o) → s'.os = s₁.os → s'.gens = s₁.gens → R (.ok (.ret (.bool true))) s') : codeAny (model prog w) callerA (.call (.ref fa) ⟨[.ref a], []⟩) R s₁ := by
  have C : Core prog w s₁ (σ0 a ns) s₁ := by
    refine ⟨⟨_, _, rfl⟩, fun _ _ e => e, fun b o e => ?_, fun b o e hm => ?_, fun b o e hm => ?_, hlow⟩
    · unfold σ0 at e
      split at e
      · rename_i hb; cases e; subst hb
        exact ⟨vs.toArray, ⟨hL, fun h => by cases h⟩, by have := ints_len hI; simp; omega, by simpa using ints_rel hI⟩
      · cases e
    · unfold σ0 at e
      split at e
      · cases e; rcases hm with h | h <;> cases h
      · cases e
    · unfold σ0 at e
      split at e
      · cases e; cases hm
      · cases e
  refine codeAny_mono (hS x i fa hx [.ref a] [.ref a] _ s₁ _ callerA g C (.one (by simp [VRel])) q) fun r s' h => ?_
  obtain ⟨v, y, σ', rfl, rv, C', T', rfl⟩ := h
  simp only [VRel] at rv; subst rv
  obtain ⟨h', tk', e⟩ := C'.same
  exact hR s' C'.base (by rw [e]) (by rw [e])

/-- the program's names, as they stand at the top -/
noncomputable def adOf (mg : Str → Option Value) (x : Str) : Addr := match mg x with
  | some (.ref a) => a
  | _ => 0
noncomputable def glOf (cs : List (Str × V)) (ids : List (Str × Nat)) (mg : Str → Option Value) : Gl := ⟨cs, ids.map fun q => (q.1, q.2, adOf mg q.1)⟩
theorem gl_look {cs : List (Str × V)} {mg : Str → Option Value} {y : Str} : ∀ {ids : List (Str × Nat)}, (glOf cs ids mg).fns.lookup y = (ids.lookup y).map fun i => (i, adOf mg y)
  | [] => rfl
  | q :: ids => by
    show List.lookup y ((q.1, q.2, adOf mg q.1) :: (glOf cs ids mg).fns) = _
    rw [List.lookup_cons, List.lookup_cons]
    cases hq : y == q.1 with
    | true => rw [beq_iff_eq.mp hq]; rfl
    | false => exact gl_look
noncomputable def sameD : PyData → V → Bool
  | .int i, v => !isRef v && decide (v.const = .int i)
  | .str x, v => !isRef v && decide (v.const = .str x)
  | _, _ => false
noncomputable def ckTop (p : Program) (loose : List Str) (cs : List (Str × V)) (ids : List (Str × Nat)) : Bool :=
  cs.all (fun q => match valOf p q.1 with | some d => sameD d q.2 | none => false) && (ids.all (fun q => (recsOf p).any fun d => d.name == q.1) &&
  biTab.all (fun q => !startupNames.contains q.1 && (!loose.contains q.1 && (!((recsOf p).map (·.name)).contains q.1 && (!((litsOf p).map (·.1)).contains q.1 && !((clssOf p loose).map (·.name)).contains q.1)))))
theorem notin_of {x : Str} {l : List Str} (h : (!l.contains x) = true) : x ∉ l := fun hm => by
  rw [List.contains_iff_mem.mpr hm] at h; cases h
theorem sameD_ok {d : PyData} {v : V} (h : sameD d v = true) {u : Value} (hr : ∀ h' : Heap, Reads h' u d []) (hh : Heap) : VRel hh v u := by
  have r := hr hh
  cases r with
  | int i t =>
    obtain ⟨h1, h2⟩ := and2 h
    rw [const_inj (v := .int i) h1 rfl (of_decide_eq_true h2)]
    exact ⟨t, rfl⟩
  | str x t =>
    obtain ⟨h1, h2⟩ := and2 h
    rw [const_inj (v := .str x) h1 rfl (of_decide_eq_true h2)]
    exact ⟨t, rfl⟩
  | _ => cases h
theorem ad_of {p : Program} {loose : List Str} {mean : ExcName → Option Value} {mg mb : Str → Option Value} {s₁ : Shared} (T : Top p loose mean mg mb s₁.heap) {d : DefRec} (hd : d ∈ recsOf p) : ∃ o pm code doc, mg d.name = some (.ref (adOf mg d.name)) ∧ s₁.heap.get? (adOf mg d.name) = some o ∧ o.data = .func (Calls.docDef d.name d.params d.body d.scope pm code doc) ∧ s₁.heap.CodeRec code d.name := by
  obtain ⟨a, o, pm, code, doc, h1, h2, h3, h4⟩ := T.fn d hd
  have ha : adOf mg d.name = a := by unfold adOf; rw [h1]
  rw [ha]
  exact ⟨o, pm, code, doc, h1, h2, h3, h4⟩
theorem top_ok {p : Program} {loose : List Str} {mean : ExcName → Option Value} {mg mb : Str → Option Value} {s₁ : Shared} {cs : List (Str × V)} {ids : List (Str × Nat)} (T : Top p loose mean mg mb s₁.heap) (h : ckTop p loose cs ids = true)
    (hb : ∀ q ∈ biTab, bootBuiltins q.1 = some q.2 ∧ q.1 ≠ "__name__") : TopOK s₁ (glOf cs ids mg) mg mb := by
  obtain ⟨h1, h⟩ := and2 h
  obtain ⟨h2, h3⟩ := and2 h
  rw [List.all_eq_true] at h1 h2 h3
  refine ⟨T.g, T.b, T.nolimit, fun x v h => ?_, fun x i a h => ?_, fun x v h => ?_⟩
  · have := h1 _ (mem_of_lookup h)
    cases hv : valOf p x with
    | none => rw [hv] at this; cases this
    | some d =>
      rw [hv] at this
      obtain ⟨u, k1, k2⟩ := T.const x d hv
      exact ⟨u, k1, sameD_ok this k2 _⟩
  · rw [gl_look] at h
    cases hl : ids.lookup x with
    | none => rw [hl] at h; cases h
    | some j =>
      rw [hl] at h
      cases h
      obtain ⟨d, hd, hn⟩ := List.any_eq_true.mp (h2 _ (mem_of_lookup hl))
      have hn' : d.name = x := beq_iff_eq.mp hn
      obtain ⟨o, pm, code, doc, k1, k2, k3, _⟩ := ad_of T hd
      rw [hn'] at k1 k2
      exact ⟨k1, o, _, k2, k3⟩
  · obtain ⟨b1, b2⟩ := hb _ (mem_of_lookup h)
    obtain ⟨k1, k⟩ := and2 (h3 _ (mem_of_lookup h))
    obtain ⟨k2, k⟩ := and2 k
    obtain ⟨k3, k⟩ := and2 k
    obtain ⟨k4, k5⟩ := and2 k
    exact ⟨T.free x (notin_of k1) (notin_of k2) (notin_of k3) (notin_of k4) (notin_of k5), (T.builtins x b2).trans b1⟩
/-- a function's text is the program's own -/
noncomputable def ckOne (P : Tab) (p : Program) (cs : List (Str × V)) (ids : List (Str × Nat)) (vars : List Str) (x : Str) (i : Nat) : Bool := match P i with
  | some (np, xs) => (recsOf p).any fun d => d.name == x && ckRec cs ids d np vars xs
  | none => false
theorem fns_ok {P : Tab} {p prog : Program} {w : World} {loose : List Str} {mean : ExcName → Option Value} {mg mb : Str → Option Value} {s₁ : Shared} {cs : List (Str × V)} {ids : List (Str × Nat)} (T : Top p loose mean mg mb s₁.heap) (TO : TopOK s₁ (glOf cs ids mg) mg mb)
    (h : ∀ q ∈ ids, ∃ vars, ckOne P p cs ids vars q.1 q.2 = true) : ∀ x i a, (glOf cs ids mg).fns.lookup x = some (i, a) → ∃ np xs vars o fd body, P i = some (np, xs) ∧ FnAt prog w s₁ (glOf cs ids mg) a np xs vars o fd body := by
  intro x i a hx
  rw [gl_look] at hx
  cases hl : ids.lookup x with
  | none => rw [hl] at hx; cases hx
  | some j =>
    rw [hl] at hx
    cases hx
    obtain ⟨vars, hk⟩ := h _ (mem_of_lookup hl)
    unfold ckOne at hk
    cases hp : P i with
    | none => rw [hp] at hk; cases hk
    | some q =>
      rw [hp] at hk
      obtain ⟨d, hd, hn⟩ := List.any_eq_true.mp hk
      obtain ⟨hn, hr⟩ := and2 hn
      have hn' : d.name = x := beq_iff_eq.mp hn
      obtain ⟨o, pm, code, doc, k1, k2, k3, k4⟩ := ad_of T hd
      rw [← hn']
      exact ⟨q.1, q.2, vars, o, _, _, rfl, ckRec_ok TO rfl (fun y i e => ⟨_, by rw [gl_look, e]; rfl⟩) hr k2 k3 k4⟩
theorem low_of {p : Program} {loose : List Str} {mean : ExcName → Option Value} {mg mb : Str → Option Value} {s₁ : Shared} (T : Top p loose mean mg mb s₁.heap) : ∃ b o, sysModules < b ∧ s₁.heap.get? b = some o := by
  obtain ⟨_, ⟨o, _, _, ho, _⟩, _⟩ := T.nodigits
  exact ⟨_, o, by decide, ho⟩
theorem bi_boot : ∀ q ∈ biTab, bootBuiltins q.1 = some q.2 ∧ q.1 ≠ "__name__" := by
  simp only [biTab, List.forall_mem_cons]
  refine ⟨?_, ?_, ?_, ?_, ?_, ?_, ?_, ?_, ?_, ?_, ?_, ?_, ?_, fun _ h => nomatch h⟩ <;> exact ⟨by first | rfl | kernel_rfl, by decide +kernel⟩
end Mine

namespace Mine
open PySem

-- 0: is_whole(thing, least, most)
noncomputable def f_is_whole : List S := [
  .ret (.and (.isi (.var 0) .int) (.and (.not (.isi (.var 0) .bool)) (.cmp2 .le .le (.var 1) (.var 0) (.var 2))))]
-- 1: is_place(thing, sign)
noncomputable def f_is_place : List S := [
  .ite (.or (.not (.isi (.var 0) .str)) (.or (.cmp .lt (.len (.var 0)) (.cst (.int 1))) (.cmp .gt (.len (.var 0)) (.gl (Str.ofString "MOST_LETTERS") (.int 12))))) [.ret (.cst (.bool false))] [],
  .for (.one 1) (.var 0) [.ite (.cmp .notin (.var 1) (.gl (Str.ofString "LETTERS") (.str (Str.ofString "abcdefghijklmnopqrstuvwxyz")))) [.ret (.cst (.bool false))] []],
  .ret (.cst (.bool true))]
-- 2: is_ride(thing)
noncomputable def f_is_ride : List S := [
  .ite (.or (.not (.isi (.var 0) .tuple)) (.cmp .ne (.len (.var 0)) (.cst (.int 3)))) [.ret (.cst (.bool false))] [],
  .ite (.or (.not (.call 1 [.sub (.var 0) (.cst (.int 0))])) (.or (.not (.call 1 [.sub (.var 0) (.cst (.int 1))])) (.cmp .eq (.sub (.var 0) (.cst (.int 0))) (.sub (.var 0) (.cst (.int 1)))))) [.ret (.cst (.bool false))] [],
  .ret (.call 0 [.sub (.var 0) (.cst (.int 2)), .cst (.int 1), .gl (Str.ofString "MOST_RIDE") (.int 9999)])]
-- 3: is_trip(thing)
noncomputable def f_is_trip : List S := [
  .ite (.or (.not (.isi (.var 0) .tuple)) (.cmp .ne (.len (.var 0)) (.cst (.int 4)))) [.ret (.cst (.bool false))] [],
  .ite (.or (.not (.call 1 [.sub (.var 0) (.cst (.int 0))])) (.not (.call 1 [.sub (.var 0) (.cst (.int 2))]))) [.ret (.cst (.bool false))] [],
  .ite (.or (.not (.call 0 [.sub (.var 0) (.cst (.int 1)), .cst (.int 0), .gl (Str.ofString "MOST_MINUTE") (.int 99999)])) (.not (.call 0 [.sub (.var 0) (.cst (.int 3)), .cst (.int 0), .gl (Str.ofString "MOST_MINUTE") (.int 99999)]))) [.ret (.cst (.bool false))] [],
  .ret (.cmp .lt (.sub (.var 0) (.cst (.int 1))) (.sub (.var 0) (.cst (.int 3))))]
-- 4: need_all(rides, trips, ride, trip)
noncomputable def f_need_all : List S := [
  .for (.one 2) (.var 0) [.ite (.not (.call 2 [.var 2])) [.stop] []],
  .for (.one 3) (.var 1) [.ite (.not (.call 3 [.var 3])) [.stop] []]]
-- 5: need_place(thing)
noncomputable def f_need_place : List S := [
  .ite (.not (.call 1 [.var 0])) [.stop] []]
-- 6: all_roads(rides, trips, found, begin, left, end, come)
noncomputable def f_all_roads : List S := [
  .asg (.one 2) (.listOf (.var 0)),
  .for (.many [3, 4, 5, 6]) (.var 1) [.ite (.cmp .ne (.var 3) (.var 5)) [.expr (.append (.var 2) (.tup [.var 3, .var 5, .bin .sub (.var 6) (.var 4)]))] []],
  .ret (.var 2)]
-- 7: least_from(told, place, found, again, one, other, minutes)
noncomputable def f_least_from : List S := [
  .asg (.one 2) (.dict1 (.var 1) (.cst (.int 0))),
  .asg (.one 3) (.cst (.bool true)),
  .while (.var 3) [.asg (.one 3) (.cst (.bool false)), .for (.many [4, 5, 6]) (.var 0) [.ite (.and (.cmp .isin (.var 4) (.var 2)) (.or (.cmp .notin (.var 5) (.var 2)) (.cmp .lt (.bin .add (.sub (.var 2) (.var 4)) (.var 6)) (.sub (.var 2) (.var 5))))) [.setItem (.var 2) (.var 5) (.bin .add (.sub (.var 2) (.var 4)) (.var 6)), .asg (.one 3) (.cst (.bool true))] []]],
  .ret (.var 2)]
-- 10: _law_cell_at(_law_script, _law_k)
noncomputable def f_law_cell_at : List S := [
  .ite (.cmp .lt (.var 1) (.len (.var 0))) [.ret (.sub (.var 0) (.var 1))] [],
  .ret (.cst (.int 0))]
-- 11: _law_names(_law_cell, _law_many, _law_some, _law_size, _law_place, _law_fill, _law_names_here, _law_k, _law_sign)
noncomputable def f_law_names : List S := [
  .asg (.one 2) (.cst (.str (Str.ofString "abcdefghijklmnopqrstuvwxyz"))),
  .ite (.cmp .eq (.bin .mod (.var 0) (.cst (.int 2))) (.cst (.int 1))) [.ret (.comp (.one 7) (.rng1 (.var 1)) (.bin .mul (.sub (.var 2) (.bin .mod (.bin .fdiv (.var 0) (.cst (.int 2))) (.cst (.int 26)))) (.bin .add (.var 7) (.cst (.int 1)))))] [],
  .asg (.one 0) (.bin .fdiv (.var 0) (.cst (.int 2))),
  .asg (.one 3) (.bin .add (.cst (.int 1)) (.bin .mod (.var 0) (.cst (.int 12)))),
  .asg (.one 4) (.bin .mod (.bin .fdiv (.var 0) (.cst (.int 12))) (.var 3)),
  .asg (.one 5) (.sub (.var 2) (.bin .mod (.bin .fdiv (.var 0) (.cst (.int 144))) (.cst (.int 26)))),
  .asg (.one 6) (.list []),
  .for (.one 7) (.rng1 (.var 1)) [.asg (.one 8) (.sub (.var 2) (.bin .mod (.bin .add (.var 7) (.bin .fdiv (.var 0) (.cst (.int 3744)))) (.cst (.int 26)))), .expr (.append (.var 6) (.bin .add (.bin .add (.bin .mul (.var 5) (.var 4)) (.var 8)) (.bin .mul (.var 5) (.bin .sub (.bin .sub (.var 3) (.cst (.int 1))) (.var 4)))))],
  .ret (.var 6)]
-- 12: _law_rides(_law_script, _law_place, _law_names_here, _law_size, _law_rides_here, _law_k, _law_cell, _law_one, _law_other, _law_minutes)
noncomputable def f_law_rides : List S := [
  .asg (.one 4) (.list []),
  .for (.one 5) (.rng1 (.var 3)) [.asg (.one 6) (.call 10 [.var 0, .bin .add (.var 1) (.var 5)]), .asg (.one 7) (.bin .mod (.var 6) (.len (.var 2))), .asg (.one 8) (.bin .mod (.bin .add (.bin .add (.var 7) (.cst (.int 1))) (.bin .mod (.bin .fdiv (.var 6) (.cst (.int 8))) (.max2 (.cst (.int 1)) (.bin .sub (.len (.var 2)) (.cst (.int 1)))))) (.len (.var 2))), .asg (.one 9) (.bin .add (.cst (.int 1)) (.bin .mod (.bin .fdiv (.var 6) (.cst (.int 64))) (.cst (.int 40)))), .ite (.cmp .eq (.bin .mod (.bin .fdiv (.var 6) (.cst (.int 64))) (.cst (.int 8))) (.cst (.int 1))) [.asg (.one 9) (.bin .add (.cst (.int 1)) (.bin .mod (.bin .fdiv (.var 6) (.cst (.int 512))) (.cst (.int 9999))))] [], .ite (.cmp .ne (.var 7) (.var 8)) [.expr (.append (.var 4) (.tup [.sub (.var 2) (.var 7), .sub (.var 2) (.var 8), .var 9]))] []],
  .ret (.var 4)]
-- 13: _law_trips(_law_script, _law_place, _law_names_here, _law_size, _law_trips_here, _law_k, _law_cell, _law_one, _law_other, _law_begin, _law_least)
noncomputable def f_law_trips : List S := [
  .asg (.one 4) (.list []),
  .for (.one 5) (.rng1 (.var 3)) [.asg (.one 6) (.call 10 [.var 0, .bin .add (.var 1) (.var 5)]), .asg (.one 7) (.sub (.var 2) (.bin .mod (.var 6) (.len (.var 2)))), .asg (.one 8) (.sub (.var 2) (.bin .mod (.bin .fdiv (.var 6) (.cst (.int 13))) (.len (.var 2)))), .asg (.one 9) (.bin .mod (.bin .fdiv (.var 6) (.cst (.int 64))) (.cst (.int 120))), .asg (.one 10) (.bin .add (.cst (.int 1)) (.bin .mod (.bin .fdiv (.var 6) (.cst (.int 7680))) (.cst (.int 25)))), .ite (.cmp .eq (.bin .mod (.bin .fdiv (.var 6) (.cst (.int 64))) (.cst (.int 16))) (.cst (.int 1))) [.asg (.one 9) (.bin .mod (.bin .fdiv (.var 6) (.cst (.int 1024))) (.cst (.int 99000))), .asg (.one 10) (.bin .add (.cst (.int 1)) (.bin .mod (.bin .fdiv (.var 6) (.cst (.int 1024))) (.cst (.int 999))))] [], .ite (.cmp .eq (.bin .mod (.bin .fdiv (.var 6) (.cst (.int 64))) (.cst (.int 16))) (.cst (.int 2))) [.asg (.one 10) (.bin .add (.cst (.int 1)) (.bin .mod (.bin .fdiv (.var 6) (.cst (.int 1024))) (.cst (.int 99000))))] [], .expr (.append (.var 4) (.tup [.var 7, .var 9, .var 8, .bin .add (.var 9) (.var 10)]))],
  .ret (.var 4)]
-- 14: _law_roads(_law_rides_here, _law_trips_here, _law_found, _law_trip)
noncomputable def f_law_roads : List S := [
  .asg (.one 2) (.listOf (.var 0)),
  .for (.one 3) (.var 1) [.ite (.cmp .ne (.sub (.var 3) (.cst (.int 0))) (.sub (.var 3) (.cst (.int 2)))) [.expr (.append (.var 2) (.tup [.sub (.var 3) (.cst (.int 0)), .sub (.var 3) (.cst (.int 2)), .bin .sub (.sub (.var 3) (.cst (.int 3))) (.sub (.var 3) (.cst (.int 1)))]))] []],
  .ret (.var 2)]
-- 15: _law_built(_law_script, _law_first, _law_second, _law_names_here, _law_rides_here, _law_trips_here, _law_step, _law_k)
noncomputable def f_law_built : List S := [
  .asg (.one 1) (.call 10 [.var 0, .cst (.int 0)]),
  .asg (.one 2) (.call 10 [.var 0, .cst (.int 2)]),
  .asg (.one 3) (.call 11 [.call 10 [.var 0, .cst (.int 1)], .bin .add (.cst (.int 1)) (.bin .mod (.var 1) (.cst (.int 6)))]),
  .asg (.one 4) (.call 12 [.var 0, .cst (.int 4), .var 3, .bin .mod (.bin .fdiv (.var 1) (.cst (.int 6))) (.cst (.int 8))]),
  .asg (.one 5) (.call 13 [.var 0, .cst (.int 12), .var 3, .bin .mod (.var 2) (.cst (.int 9))]),
  .ite (.cmp .eq (.bin .mod (.bin .fdiv (.var 2) (.cst (.int 9))) (.cst (.int 4))) (.cst (.int 1))) [.asg (.one 5) (.bin .add (.var 5) (.slc (.var 5) (.cst .none) (.cst (.int 2))))] [],
  .ite (.cmp .eq (.bin .mod (.bin .fdiv (.var 2) (.cst (.int 9))) (.cst (.int 8))) (.cst (.int 2))) [.asg (.one 3) (.call 11 [.call 10 [.var 0, .cst (.int 1)], .cst (.int 12)]), .asg (.one 6) (.sub (.list [.bin .add (.cst (.int 1)) (.bin .mod (.var 1) (.cst (.int 20))), .bin .add (.cst (.int 9990)) (.bin .mod (.var 1) (.cst (.int 9)))]) (.bin .mod (.bin .fdiv (.var 2) (.cst (.int 72))) (.cst (.int 2)))), .asg (.one 4) (.comp (.one 7) (.rng1 (.bin .add (.cst (.int 2)) (.bin .mod (.var 1) (.cst (.int 10))))) (.tup [.sub (.var 3) (.var 7), .sub (.var 3) (.bin .add (.var 7) (.cst (.int 1))), .bin .add (.var 6) (.bin .mod (.var 7) (.cst (.int 2)))])), .asg (.one 5) (.call 13 [.var 0, .cst (.int 12), .var 3, .bin .mod (.var 2) (.cst (.int 5))])] [],
  .ret (.tup [.var 3, .var 4, .var 5])]
-- 19: way_by(told, one, other, least, found)
noncomputable def f_way_by : List S := [
  .asg (.one 3) (.call 7 [.var 0, .var 1]),
  .ite (.cmp .notin (.var 2) (.var 3)) [.ret (.cst .none)] [],
  .asg (.one 4) (.list [.var 2]),
  .while (.cmp .ne (.sub (.var 4) (.cst (.int 0))) (.var 1)) [.expr (.insert0 (.var 4) (.call 20 [.var 0, .var 3, .sub (.var 4) (.cst (.int 0))]))],
  .ret (.var 4)]
-- 20: place_ahead(told, least, place, ahead, one, other, minutes)
noncomputable def f_place_ahead : List S := [
  .asg (.one 3) (.var 2),
  .for (.many [4, 5, 6]) (.var 0) [.ite (.and (.cmp .eq (.var 5) (.var 2)) (.and (.cmp .isin (.var 4) (.var 1)) (.cmp .eq (.bin .add (.sub (.var 1) (.var 4)) (.var 6)) (.sub (.var 1) (.var 2))))) [.asg (.one 3) (.var 4)] []],
  .ret (.var 3)]
-- 21: way(rides, trips, one, other)
noncomputable def f_way : List S := [
  .expr (.call 4 [.var 0, .var 1]),
  .expr (.call 5 [.var 2]),
  .expr (.call 5 [.var 3]),
  .ret (.call 19 [.call 6 [.var 0, .var 1], .var 2, .var 3])]
-- 22: _law_least(_law_told, _law_place, _law_found, _law_turn, _law_road, _law_minutes)
noncomputable def f_law_least : List S := [
  .asg (.one 2) (.dict1 (.var 1) (.cst (.int 0))),
  .for (.one 3) (.rng1 (.bin .add (.len (.var 0)) (.cst (.int 1)))) [.for (.one 4) (.var 0) [.ite (.cmp .isin (.sub (.var 4) (.cst (.int 0))) (.var 2)) [.asg (.one 5) (.bin .add (.sub (.var 2) (.sub (.var 4) (.cst (.int 0)))) (.sub (.var 4) (.cst (.int 2)))), .ite (.cmp .lt (.var 5) (.get2 (.var 2) (.sub (.var 4) (.cst (.int 1))) (.bin .add (.var 5) (.cst (.int 1))))) [.setItem (.var 2) (.sub (.var 4) (.cst (.int 1))) (.var 5)] []] []]],
  .ret (.var 2)]
-- 23: _law_good(_law_found, _law_told, _law_one, _law_other, _law_due, _law_minutes, _law_k, _law_steps, _law_road)
noncomputable def f_law_good : List S := [
  .ite (.or (.not (.isi (.var 0) .list)) (.or (.cmp .eq (.var 0) (.list [])) (.or (.cmp .ne (.sub (.var 0) (.cst (.int 0))) (.var 2)) (.cmp .ne (.sub (.var 0) (.cst (.int (-1)))) (.var 3))))) [.ret (.cst (.bool false))] [],
  .asg (.one 5) (.cst (.int 0)),
  .for (.one 6) (.rng2 (.cst (.int 1)) (.len (.var 0))) [.asg (.one 7) (.compIf (.one 8) (.var 1) (.and (.cmp .eq (.sub (.var 8) (.cst (.int 0))) (.sub (.var 0) (.bin .sub (.var 6) (.cst (.int 1))))) (.cmp .eq (.sub (.var 8) (.cst (.int 1))) (.sub (.var 0) (.var 6)))) (.sub (.var 8) (.cst (.int 2)))), .ite (.cmp .eq (.var 7) (.list [])) [.ret (.cst (.bool false))] [], .asg (.one 5) (.bin .add (.var 5) (.minOf (.var 7)))],
  .ret (.and (.cmp .eq (.var 5) (.var 4)) (.or (.cmp .ne (.var 2) (.var 3)) (.cmp .eq (.len (.var 0)) (.cst (.int 1)))))]
-- 24: law(_law_script, _law_some, _law_one, _law_other, _law_handed, _law_told, _law_least_here, _law_turn, _law_names_here, _law_rides_here, _law_trips_here, _law_found)
noncomputable def f_law_03 : List S := [
  .asg (.many [8, 9, 10]) (.call 15 [.var 0]),
  .asg (.one 1) (.bin .add (.var 8) (.list [.cst (.str (Str.ofString "zz"))])),
  .asg (.one 2) (.sub (.var 1) (.bin .mod (.call 10 [.var 0, .cst (.int 24)]) (.len (.var 1)))),
  .asg (.one 3) (.sub (.var 1) (.bin .mod (.call 10 [.var 0, .cst (.int 25)]) (.len (.var 1)))),
  .asg (.one 4) (.list [.listOf (.var 9), .listOf (.var 10)]),
  .asg (.one 5) (.call 14 [.var 9, .var 10]),
  .asg (.one 6) (.call 22 [.var 5, .var 2]),
  .for (.one 7) (.rng1 (.cst (.int 2))) [.asg (.one 11) (.call 21 [.sub (.var 4) (.cst (.int 0)), .sub (.var 4) (.cst (.int 1)), .var 2, .var 3]), .ite (.cmp .notin (.var 3) (.var 6)) [.ret (.and (.cmp .is (.var 11) (.cst .none)) (.cmp .eq (.var 4) (.list [.var 9, .var 10])))] [], .ite (.not (.call 23 [.var 11, .var 5, .var 2, .var 3, .sub (.var 6) (.var 3)])) [.ret (.cst (.bool false))] [], .expr (.append (.var 11) (.cst (.str (Str.ofString "a"))))],
  .ret (.cmp .eq (.var 4) (.list [.var 9, .var 10]))]
noncomputable def v_is_whole : List Str := [Str.ofString "thing", Str.ofString "least", Str.ofString "most"]
noncomputable def v_is_place : List Str := [Str.ofString "thing", Str.ofString "sign"]
noncomputable def v_is_ride : List Str := [Str.ofString "thing"]
noncomputable def v_is_trip : List Str := [Str.ofString "thing"]
noncomputable def v_need_all : List Str := [Str.ofString "rides", Str.ofString "trips", Str.ofString "ride", Str.ofString "trip"]
noncomputable def v_need_place : List Str := [Str.ofString "thing"]
noncomputable def v_all_roads : List Str := [Str.ofString "rides", Str.ofString "trips", Str.ofString "found", Str.ofString "begin", Str.ofString "left", Str.ofString "end", Str.ofString "come"]
noncomputable def v_least_from : List Str := [Str.ofString "told", Str.ofString "place", Str.ofString "found", Str.ofString "again", Str.ofString "one", Str.ofString "other", Str.ofString "minutes"]
noncomputable def v_law_cell_at : List Str := [Str.ofString "_law_script", Str.ofString "_law_k"]
noncomputable def v_law_names : List Str := [Str.ofString "_law_cell", Str.ofString "_law_many", Str.ofString "_law_some", Str.ofString "_law_size", Str.ofString "_law_place", Str.ofString "_law_fill", Str.ofString "_law_names_here", Str.ofString "_law_k", Str.ofString "_law_sign"]
noncomputable def v_law_rides : List Str := [Str.ofString "_law_script", Str.ofString "_law_place", Str.ofString "_law_names_here", Str.ofString "_law_size", Str.ofString "_law_rides_here", Str.ofString "_law_k", Str.ofString "_law_cell", Str.ofString "_law_one", Str.ofString "_law_other", Str.ofString "_law_minutes"]
noncomputable def v_law_roads : List Str := [Str.ofString "_law_rides_here", Str.ofString "_law_trips_here", Str.ofString "_law_found", Str.ofString "_law_trip"]
noncomputable def v_law_built : List Str := [Str.ofString "_law_script", Str.ofString "_law_first", Str.ofString "_law_second", Str.ofString "_law_names_here", Str.ofString "_law_rides_here", Str.ofString "_law_trips_here", Str.ofString "_law_step", Str.ofString "_law_k"]
noncomputable def v_way_by : List Str := [Str.ofString "told", Str.ofString "one", Str.ofString "other", Str.ofString "least", Str.ofString "found"]
noncomputable def v_place_ahead : List Str := [Str.ofString "told", Str.ofString "least", Str.ofString "place", Str.ofString "ahead", Str.ofString "one", Str.ofString "other", Str.ofString "minutes"]
noncomputable def v_way : List Str := [Str.ofString "rides", Str.ofString "trips", Str.ofString "one", Str.ofString "other"]
noncomputable def v_law_trips_03 : List Str := [Str.ofString "_law_script", Str.ofString "_law_place", Str.ofString "_law_names_here", Str.ofString "_law_size", Str.ofString "_law_trips_here", Str.ofString "_law_k", Str.ofString "_law_cell", Str.ofString "_law_one", Str.ofString "_law_other", Str.ofString "_law_begin", Str.ofString "_law_least_here"]
noncomputable def v_law_least : List Str := [Str.ofString "_law_told", Str.ofString "_law_place", Str.ofString "_law_found", Str.ofString "_law_turn", Str.ofString "_law_road", Str.ofString "_law_minutes"]
noncomputable def v_law_good : List Str := [Str.ofString "_law_found", Str.ofString "_law_told", Str.ofString "_law_one", Str.ofString "_law_other", Str.ofString "_law_due", Str.ofString "_law_minutes", Str.ofString "_law_k", Str.ofString "_law_steps", Str.ofString "_law_road"]
noncomputable def v_law_03 : List Str := [Str.ofString "_law_script", Str.ofString "_law_some", Str.ofString "_law_one", Str.ofString "_law_other", Str.ofString "_law_handed", Str.ofString "_law_told", Str.ofString "_law_least_here", Str.ofString "_law_turn", Str.ofString "_law_names_here", Str.ofString "_law_rides_here", Str.ofString "_law_trips_here", Str.ofString "_law_found"]
noncomputable def P : Tab := fun i => match i with
  | 0 => some (3, f_is_whole)
  | 1 => some (1, f_is_place)
  | 2 => some (1, f_is_ride)
  | 3 => some (1, f_is_trip)
  | 4 => some (2, f_need_all)
  | 5 => some (1, f_need_place)
  | 6 => some (2, f_all_roads)
  | 7 => some (2, f_least_from)
  | 10 => some (2, f_law_cell_at)
  | 11 => some (2, f_law_names)
  | 12 => some (4, f_law_rides)
  | 13 => some (4, f_law_trips)
  | 14 => some (2, f_law_roads)
  | 15 => some (1, f_law_built)
  | 19 => some (3, f_way_by)
  | 20 => some (3, f_place_ahead)
  | 21 => some (4, f_way)
  | 22 => some (2, f_law_least)
  | 23 => some (5, f_law_good)
  | 24 => some (1, f_law_03)
  | _ => none
end Mine

namespace Mine
open PySem

noncomputable def Ext (σ σ' : Store) : Prop := ∀ a o, σ a = some o → σ' a = some o
theorem Ext.refl {σ : Store} : Ext σ σ := fun _ _ e => e
theorem Ext.trans {σ σ' σ'' : Store} (h : Ext σ σ') (h' : Ext σ' σ'') : Ext σ σ'' := fun a o e => h' a o (h a o e)
theorem Ext.new {σ : Store} {a : Addr} {o : O} (h : σ a = none) : Ext σ (σ.set a o) := fun b x e => by
  rw [set_ne]; exact e
  rintro rfl; rw [h] at e; cases e
theorem set_set {σ : Store} {a : Addr} {o o' : O} : (σ.set a o).set a o' = σ.set a o' := by
  funext b; simp only [Store.set]; split <;> rfl
theorem set_same {σ : Store} {a : Addr} {o : O} (h : σ a = some o) : σ.set a o = σ := by
  funext b; simp only [Store.set]; split
  · rename_i e; rw [e, h]
  · rfl

/-- a loop by its turns -/
theorem forW_of {ok : Store → Prop} {body : V → Loc → Store → FPost → Prop} {items : List V} {Q : FPost} (I : Nat → Loc → Store → Prop) (hok : ∀ k ρ σ, k ≤ items.length → I k ρ σ → ok σ)
    (step : ∀ k v ρ σ K, items[k]? = some v → I k ρ σ → (∀ ρ' σ', I (k + 1) ρ' σ' → K .next ρ' σ') → (∀ x ρ' σ', Q (.ret x) ρ' σ' → K (.ret x) ρ' σ') → body v ρ σ K)
    (fin : ∀ ρ σ, I items.length ρ σ → Q .next ρ σ) {ρ : Loc} {σ : Store} (h0 : I 0 ρ σ) : forW ok body items ρ σ Q := by
  have key : ∀ m k ρ σ, items.length - k = m → k ≤ items.length → I k ρ σ → forW ok body (items.drop k) ρ σ Q := by
    intro m
    induction m with
    | zero =>
      intro k ρ σ hm hk h
      have : k = items.length := by omega
      subst this
      rw [List.drop_length]
      exact ⟨hok _ _ _ hk h, fin _ _ h⟩
    | succ m ih =>
      intro k ρ σ hm hk h
      have hlt : k < items.length := by omega
      rw [List.drop_eq_getElem_cons hlt]
      refine ⟨hok _ _ _ hk h, step k _ ρ σ _ (List.getElem?_eq_getElem hlt) h (fun ρ' σ' h' => ?_) fun x ρ' σ' h' => h'⟩
      exact ih (k + 1) ρ' σ' (by omega) hlt h'
  have := key items.length 0 ρ σ (by omega) (by omega) h0
  simpa using this

theorem compW_of {ok : Store → Prop} {cnd : V → Store → (Bool → Store → Prop) → Prop} {elt : V → Store → Post → Prop} {items : List V} {Q : List V → Store → Prop} (I : Nat → List V → Store → Prop) (hok : ∀ k acc σ, k ≤ items.length → I k acc σ → ok σ)
    (step : ∀ k v acc σ (K₁ : Bool → Store → Prop) (K₂ : Post), items[k]? = some v → I k acc σ → (∀ σ', (∀ y σ'', I (k + 1) (acc ++ [y]) σ'' → K₂ y σ'') → elt v σ' K₂ → K₁ true σ') → (∀ σ', I (k + 1) acc σ' → K₁ false σ') → (∀ y σ'', I (k + 1) (acc ++ [y]) σ'' → K₂ y σ'') → cnd v σ K₁)
    (fin : ∀ acc σ, I items.length acc σ → Q acc σ) {σ : Store} (h0 : I 0 [] σ) : compW ok cnd elt items [] σ Q := by
  have key : ∀ m k acc σ, items.length - k = m → k ≤ items.length → I k acc σ → compW ok cnd elt (items.drop k) acc σ Q := by
    intro m
    induction m with
    | zero =>
      intro k acc σ hm hk h
      have : k = items.length := by omega
      subst this
      rw [List.drop_length]
      exact ⟨hok _ _ _ hk h, fin _ _ h⟩
    | succ m ih =>
      intro k acc σ hm hk h
      have hlt : k < items.length := by omega
      rw [List.drop_eq_getElem_cons hlt]
      refine ⟨hok _ _ _ hk h, step k _ acc σ _ (fun y σ₂ => compW ok cnd elt (items.drop (k + 1)) (acc ++ [y]) σ₂ Q) (List.getElem?_eq_getElem hlt) h (fun σ' _ h' => ?_) (fun σ' h' => ?_) fun y σ'' h' => ih (k + 1) _ _ (by omega) hlt h'⟩
      · rw [if_pos rfl]; exact h'
      · rw [if_neg (by simp)]; exact ih (k + 1) _ _ (by omega) hlt h'
  have := key items.length 0 [] σ (by omega) (by omega) h0
  simpa using this

/-- a plain comprehension -/
theorem compW_plain {ok : Store → Prop} {b : V → Prop} {elt : V → Store → Post → Prop} {items : List V} {Q : List V → Store → Prop} (I : Nat → List V → Store → Prop) (hb : ∀ v ∈ items, b v) (hok : ∀ k acc σ, k ≤ items.length → I k acc σ → ok σ)
    (step : ∀ k v acc σ (K : Post), items[k]? = some v → I k acc σ → (∀ y σ', I (k + 1) (acc ++ [y]) σ' → K y σ') → elt v σ K)
    (fin : ∀ acc σ, I items.length acc σ → Q acc σ) {σ : Store} (h0 : I 0 [] σ) : compW ok (fun v σ Q => b v ∧ Q true σ) elt items [] σ Q :=
  compW_of I hok (fun k v acc σ K₁ K₂ hv hi h1 _ h3 => ⟨hb v (List.mem_of_getElem? hv), h1 σ h3 (step k v acc σ K₂ hv hi h3)⟩) fin h0

theorem rng_get {n : Int} {k : Nat} {v : V} (h : (rngItems 0 n)[k]? = some v) : v = .int k ∧ (k : Int) < n := by
  unfold rngItems at h
  rw [List.getElem?_map] at h
  have := (Option.map_eq_some_iff).mp h
  obtain ⟨j, hj, rfl⟩ := this
  have h1 := List.getElem?_eq_some_iff.mp hj
  obtain ⟨h2, h3⟩ := h1
  rw [List.getElem_range] at h3
  subst h3
  rw [List.length_range] at h2
  exact ⟨by simp, by omega⟩
theorem rng_len {n : Int} (h : 0 ≤ n) : (rngItems 0 n).length = n.toNat := by
  unfold rngItems; simp

/-- a function's body -/
theorem spec_of {k f np : Nat} {xs : List Mine.S} {vs : List V} {σ : Store} {Q : Post} (hp : P f = some (np, xs)) (hl : vs.length = np) (h : wpSs (specAt P k) xs (fun i => vs[i]?) σ fun fl _ σ' => Q (match fl with | .ret v => v | .next => .none) σ') : specAt P (k + 1) f vs σ Q :=
  ⟨np, xs, hp, hl, h⟩

end Mine

namespace Mine
open PySem

noncomputable def binP (o : BOp) (a b : V) : Option V :=
  match o, a, b with
  | .add, .int i, .int j => some (.int (i + j))
  | .sub, .int i, .int j => some (.int (i - j))
  | .mul, .int i, .int j => if i.natAbs < 2 ^ 60 ∨ j.natAbs < 2 ^ 60 then some (.int (i * j)) else none
  | .fdiv, .int i, .int j => if 0 < j ∧ j < 2 ^ 30 then some (.int (i / j)) else none
  | .mod, .int i, .int j => if 0 < j then some (.int (i % j)) else none
  | .add, .str x, .str y => if x.length + y.length ≤ 1000000 then some (.str (x ++ y)) else none
  | .mul, .str x, .int n => if 0 ≤ n ∧ n ≤ 1000000 ∧ x.length ≤ 12 then some (.str (strRep x n.toNat)) else none
  | _, _, _ => none
theorem nn {C : Prop} {v : V} (h : (none : Option V) = some v) : C := nomatch h
theorem ifP {c : Prop} [Decidable c] {x v : V} (h : (if c then some x else none) = some v) : c ∧ v = x := by
  by_cases hc : c
  · rw [if_pos hc] at h; cases h; exact ⟨hc, rfl⟩
  · rw [if_neg hc] at h; cases h
theorem binP_ok {o : BOp} {a b v : V} {σ : Store} {Q : Post} (h : binP o a b = some v) (q : Q v σ) : wpBin o a b σ Q := by
  cases a with
  | int i =>
    cases b with
    | int j =>
      cases o with
      | add => cases h; exact q
      | sub => cases h; exact q
      | mul => obtain ⟨hc, rfl⟩ := ifP h; exact ⟨hc, q⟩
      | fdiv => obtain ⟨hc, rfl⟩ := ifP h; exact ⟨hc.1, hc.2, q⟩
      | mod => obtain ⟨hc, rfl⟩ := ifP h; exact ⟨hc, q⟩
    | _ => cases o <;> exact nn h
  | str x =>
    cases b with
    | str y =>
      cases o with
      | add => obtain ⟨hc, rfl⟩ := ifP h; exact ⟨hc, q⟩
      | _ => exact nn h
    | int n =>
      cases o with
      | mul => obtain ⟨hc, rfl⟩ := ifP h; exact ⟨hc.1, hc.2.1, hc.2.2, q⟩
      | _ => exact nn h
    | _ => cases o <;> exact nn h
  | _ => cases o <;> exact nn h

noncomputable def getP (σ : Store) : V → V → Option V
  | .ref p, .str x => match σ p with | some (.ds _ es) => some ((look es x).getD .none) | _ => none
  | _, _ => none
noncomputable def maxP : V → V → Option V
  | .int i, .int j => some (.int (max i j))
  | _, _ => none
noncomputable def andP : Option V → Option V → Option V
  | some (.bool true), y => y
  | some (.bool false), _ => some (.bool false)
  | _, _ => none
noncomputable def orP : Option V → Option V → Option V
  | some (.bool true), _ => some (.bool true)
  | some (.bool false), y => y
  | _, _ => none
noncomputable def notP : V → Option V
  | .bool b => some (.bool !b)
  | _ => none
noncomputable def lenP (σ : Store) (v : V) : Option V := match lenV σ v with | some n => if n ≤ 1000000 then some (.int n) else none | none => none
noncomputable def cmp2P (σ : Store) (o p : COp) (a b : V) (c : Option V) : Option V := match cmpV o a b σ with
  | some true => c.bind fun c => (cmpV p b c σ).map .bool
  | some false => some (.bool false)
  | none => none
noncomputable def rngP : V → V → Option V
  | .int i, .int j => some (.rng i j)
  | _, _ => none

mutual
/-- the value of an expression that makes and changes nothing -/
noncomputable def evP (ρ : Loc) (σ : Store) : X → Option V
  | .var i => ρ i
  | .cst v => some v
  | .gl _ v => some v
  | .bin o a b => (evP ρ σ a).bind fun x => (evP ρ σ b).bind fun y => binP o x y
  | .cmp o a b => (evP ρ σ a).bind fun x => (evP ρ σ b).bind fun y => (cmpV o x y σ).map .bool
  | .cmp2 o p a b c => (evP ρ σ a).bind fun x => (evP ρ σ b).bind fun y => cmp2P σ o p x y (evP ρ σ c)
  | .and a b => andP (evP ρ σ a) (evP ρ σ b)
  | .or a b => orP (evP ρ σ a) (evP ρ σ b)
  | .not a => (evP ρ σ a).bind notP
  | .sub a b => (evP ρ σ a).bind fun x => (evP ρ σ b).bind fun y => subV σ x y
  | .tup es => (evPs ρ σ es).map .tup
  | .len a => (evP ρ σ a).bind (lenP σ)
  | .isi a t => (evP ρ σ a).bind fun x => (tyV σ x t).map .bool
  | .max2 a b => (evP ρ σ a).bind fun x => (evP ρ σ b).bind fun y => maxP x y
  | .rng1 b => (evP ρ σ b).bind fun y => rngP (.int 0) y
  | .rng2 a b => (evP ρ σ a).bind fun x => (evP ρ σ b).bind fun y => rngP x y
  | .get1 o k => (evP ρ σ o).bind fun x => (evP ρ σ k).bind fun y => getP σ x y
  | _ => none
noncomputable def evPs (ρ : Loc) (σ : Store) : List X → Option (List V)
  | [] => some []
  | e :: r => (evP ρ σ e).bind fun v => (evPs ρ σ r).map (v :: ·)
end

theorem bind1_inv {p : Option V} {f : V → Option V} {v : V} (h : p.bind f = some v) : ∃ x, p = some x ∧ f x = some v := by
  cases p with
  | none => cases h
  | some x => exact ⟨x, rfl, h⟩
theorem bind2_inv {p q : Option V} {f : V → V → Option V} {v : V} (h : (p.bind fun x => q.bind fun y => f x y) = some v) : ∃ x y, p = some x ∧ q = some y ∧ f x y = some v := by
  cases p with
  | none => cases h
  | some x =>
    cases q with
    | none => cases h
    | some y => exact ⟨x, y, rfl, rfl, h⟩
theorem map_inv {p : Option Bool} {v : V} (h : p.map V.bool = some v) : ∃ r, p = some r ∧ v = .bool r := by
  cases p with
  | none => cases h
  | some r => cases h; exact ⟨r, rfl, rfl⟩
theorem andP_inv {p q : Option V} {v : V} (h : andP p q = some v) : (p = some (.bool true) ∧ q = some v) ∨ (p = some (.bool false) ∧ v = .bool false) := by
  cases p with
  | none => cases h
  | some x =>
    cases x with
    | bool t =>
      cases t with
      | true => exact .inl ⟨rfl, h⟩
      | false => cases h; exact .inr ⟨rfl, rfl⟩
    | _ => exact nn h
theorem orP_inv {p q : Option V} {v : V} (h : orP p q = some v) : (p = some (.bool false) ∧ q = some v) ∨ (p = some (.bool true) ∧ v = .bool true) := by
  cases p with
  | none => cases h
  | some x =>
    cases x with
    | bool t =>
      cases t with
      | false => exact .inl ⟨rfl, h⟩
      | true => cases h; exact .inr ⟨rfl, rfl⟩
    | _ => exact nn h
theorem notP_inv {x v : V} (h : notP x = some v) : ∃ t, x = .bool t ∧ v = .bool !t := by
  cases x with
  | bool t => cases h; exact ⟨t, rfl, rfl⟩
  | _ => exact nn h
theorem lenP_inv {σ : Store} {x v : V} (h : lenP σ x = some v) : ∃ n, lenV σ x = some n ∧ n ≤ 1000000 ∧ v = .int n := by
  unfold lenP at h
  cases hn : lenV σ x with
  | none => rw [hn] at h; cases h
  | some n =>
    rw [hn] at h
    by_cases hz : n ≤ 1000000
    · exact ⟨n, rfl, hz, by have h' := Eq.trans (if_pos hz).symm h; cases h'; rfl⟩
    · exact nn (Eq.trans (if_neg hz).symm h)
theorem maxP_inv {x y v : V} (h : maxP x y = some v) : ∃ i j, x = .int i ∧ y = .int j ∧ v = .int (max i j) := by
  cases x with
  | int i => cases y with
    | int j => cases h; exact ⟨i, j, rfl, rfl, rfl⟩
    | _ => exact nn h
  | _ => exact nn h
theorem rngP_inv {x y v : V} (h : rngP x y = some v) : ∃ i j, x = .int i ∧ y = .int j ∧ v = .rng i j := by
  cases x with
  | int i => cases y with
    | int j => cases h; exact ⟨i, j, rfl, rfl, rfl⟩
    | _ => exact nn h
  | _ => exact nn h
theorem getP_inv {σ : Store} {x y v : V} (h : getP σ x y = some v) : ∃ p z m es, x = .ref p ∧ y = .str z ∧ σ p = some (.ds m es) ∧ v = (look es z).getD .none := by
  cases x with
  | ref p => cases y with
    | str z =>
      cases hp : σ p with
      | none => exact nn (by have h' : (match σ p with | some (.ds _ es) => some ((look es z).getD .none) | _ => none) = some v := h; rw [hp] at h'; exact h')
      | some o =>
        have h' : (match σ p with | some (.ds _ es) => some ((look es z).getD .none) | _ => none) = some v := h
        rw [hp] at h'
        cases o with
        | ds m es => cases h'; exact ⟨p, z, m, es, rfl, rfl, hp, rfl⟩
        | _ => exact nn h'
    | _ => exact nn h
  | _ => exact nn h
theorem cmp2P_inv {σ : Store} {o p : COp} {a b : V} {c : Option V} {v : V} (h : cmp2P σ o p a b c = some v) : (cmpV o a b σ = some true ∧ ∃ z r, c = some z ∧ cmpV p b z σ = some r ∧ v = .bool r) ∨ (cmpV o a b σ = some false ∧ v = .bool false) := by
  unfold cmp2P at h
  cases hc : cmpV o a b σ with
  | none => rw [hc] at h; cases h
  | some t =>
    rw [hc] at h
    cases t with
    | true =>
      obtain ⟨z, h1, h2⟩ := bind1_inv h
      obtain ⟨r, h3, h4⟩ := map_inv h2
      exact .inl ⟨rfl, z, r, h1, h3, h4⟩
    | false => cases h; exact .inr ⟨rfl, rfl⟩

mutual
theorem evP_ok {S : Spec} {ρ : Loc} {σ : Store} : ∀ {e : X} {v : V} {Q : Post}, evP ρ σ e = some v → Q v σ → wpE S e ρ σ Q
  | .var i, v, Q, h, q => ⟨v, h, q⟩
  | .cst v, _, Q, h, q => by cases (h : some v = _); exact q
  | .gl _ v, _, Q, h, q => by cases (h : some v = _); exact q
  | .bin o a b, v, Q, h, q => by
    obtain ⟨x, y, hx, hy, h⟩ := bind2_inv (p := evP ρ σ a) (q := evP ρ σ b) (f := binP o) h
    exact evP_ok (e := a) hx (evP_ok (e := b) hy (binP_ok h q))
  | .cmp o a b, v, Q, h, q => by
    obtain ⟨x, y, hx, hy, h⟩ := bind2_inv (p := evP ρ σ a) (q := evP ρ σ b) (f := fun x y => (cmpV o x y σ).map .bool) h
    obtain ⟨r, h', rfl⟩ := map_inv h
    exact evP_ok (e := a) hx (evP_ok (e := b) hy ⟨r, h', q⟩)
  | .cmp2 o p a b c, v, Q, h, q => by
    obtain ⟨x, y, hx, hy, h⟩ := bind2_inv (p := evP ρ σ a) (q := evP ρ σ b) (f := fun x y => cmp2P σ o p x y (evP ρ σ c)) h
    refine evP_ok (e := a) hx (evP_ok (e := b) hy ?_)
    rcases cmp2P_inv h with ⟨h1, z, r, hz, h2, rfl⟩ | ⟨h1, rfl⟩
    · exact ⟨true, h1, evP_ok (e := c) hz ⟨r, h2, q⟩⟩
    · exact ⟨false, h1, q⟩
  | .and a b, v, Q, h, q => by
    rcases andP_inv (p := evP ρ σ a) (q := evP ρ σ b) h with ⟨hx, hy⟩ | ⟨hx, rfl⟩
    · exact evP_ok (e := a) (Q := asBool fun t σ₁ => if t = true then wpE S b ρ σ₁ Q else Q (.bool false) σ₁) hx (evP_ok (e := b) hy q)
    · exact evP_ok (e := a) (Q := asBool fun t σ₁ => if t = true then wpE S b ρ σ₁ Q else Q (.bool false) σ₁) hx q
  | .or a b, v, Q, h, q => by
    rcases orP_inv (p := evP ρ σ a) (q := evP ρ σ b) h with ⟨hx, hy⟩ | ⟨hx, rfl⟩
    · exact evP_ok (e := a) (Q := asBool fun t σ₁ => if t = true then Q (.bool true) σ₁ else wpE S b ρ σ₁ Q) hx (evP_ok (e := b) hy q)
    · exact evP_ok (e := a) (Q := asBool fun t σ₁ => if t = true then Q (.bool true) σ₁ else wpE S b ρ σ₁ Q) hx q
  | .not a, v, Q, h, q => by
    obtain ⟨x, hx, h⟩ := bind1_inv (p := evP ρ σ a) (f := notP) h
    obtain ⟨t, rfl, rfl⟩ := notP_inv h
    exact evP_ok (e := a) (Q := asBool fun t σ₁ => Q (.bool !t) σ₁) hx q
  | .sub a b, v, Q, h, q => by
    obtain ⟨x, y, hx, hy, h⟩ := bind2_inv (p := evP ρ σ a) (q := evP ρ σ b) (f := subV σ) h
    exact evP_ok (e := a) hx (evP_ok (e := b) hy ⟨v, h, q⟩)
  | .tup es, v, Q, h, q => by
    have h' : (evPs ρ σ es).map V.tup = some v := h
    cases he : evPs ρ σ es with
    | none => rw [he] at h'; cases h'
    | some vs => rw [he] at h'; cases h'; exact evPs_ok (es := es) he q
  | .len a, v, Q, h, q => by
    obtain ⟨x, hx, h⟩ := bind1_inv (p := evP ρ σ a) (f := lenP σ) h
    obtain ⟨n, hn, hz, rfl⟩ := lenP_inv h
    exact evP_ok (e := a) hx ⟨n, hn, hz, q⟩
  | .isi a t, v, Q, h, q => by
    obtain ⟨x, hx, h⟩ := bind1_inv (p := evP ρ σ a) (f := fun x => (tyV σ x t).map .bool) h
    obtain ⟨r, h', rfl⟩ := map_inv h
    exact evP_ok (e := a) hx ⟨r, h', q⟩
  | .max2 a b, v, Q, h, q => by
    obtain ⟨x, y, hx, hy, h⟩ := bind2_inv (p := evP ρ σ a) (q := evP ρ σ b) (f := maxP) h
    obtain ⟨i, j, rfl, rfl, rfl⟩ := maxP_inv h
    exact evP_ok (e := a) hx (evP_ok (e := b) hy ⟨i, j, rfl, rfl, q⟩)
  | .rng1 b, v, Q, h, q => by
    obtain ⟨y, hy, h⟩ := bind1_inv (p := evP ρ σ b) (f := fun y => rngP (.int 0) y) h
    obtain ⟨i, j, h1, rfl, rfl⟩ := rngP_inv h
    cases h1
    exact evP_ok (e := b) hy ⟨j, rfl, q⟩
  | .rng2 a b, v, Q, h, q => by
    obtain ⟨x, y, hx, hy, h⟩ := bind2_inv (p := evP ρ σ a) (q := evP ρ σ b) (f := rngP) h
    obtain ⟨i, j, rfl, rfl, rfl⟩ := rngP_inv h
    exact evP_ok (e := a) hx (evP_ok (e := b) hy ⟨i, j, rfl, rfl, q⟩)
  | .get1 o k, v, Q, h, q => by
    obtain ⟨x, y, hx, hy, h⟩ := bind2_inv (p := evP ρ σ o) (q := evP ρ σ k) (f := getP σ) h
    obtain ⟨p, z, m, es, rfl, rfl, hp, rfl⟩ := getP_inv h
    exact evP_ok (e := o) hx ⟨p, m, es, rfl, hp, evP_ok (e := k) hy ⟨m, es, z, rfl, hp, q⟩⟩
  | .slc .., _, _, h, _ => nn h
  | .rev .., _, _, h, _ => nn h
  | .list .., _, _, h, _ => nn h
  | .dict0, _, _, h, _ => nn h
  | .dict1 .., _, _, h, _ => nn h
  | .comp .., _, _, h, _ => nn h
  | .compIf .., _, _, h, _ => nn h
  | .call .., _, _, h, _ => nn h
  | .listOf .., _, _, h, _ => nn h
  | .dictOf .., _, _, h, _ => nn h
  | .tupleOf .., _, _, h, _ => nn h
  | .minOf .., _, _, h, _ => nn h
  | .sorted .., _, _, h, _ => nn h
  | .append .., _, _, h, _ => nn h
  | .insert0 .., _, _, h, _ => nn h
  | .pop .., _, _, h, _ => nn h
  | .get2 .., _, _, h, _ => nn h
theorem evPs_ok {S : Spec} {ρ : Loc} {σ : Store} : ∀ {es : List X} {vs : List V} {Q : List V → Store → Prop}, evPs ρ σ es = some vs → Q vs σ → wpEs S es ρ σ Q
  | [], vs, Q, h, q => by cases (h : some [] = _); exact q
  | e :: r, vs, Q, h, q => by
    have h' : ((evP ρ σ e).bind fun v => (evPs ρ σ r).map (v :: ·)) = some vs := h
    cases hv : evP ρ σ e with
    | none => rw [hv] at h'; cases h'
    | some v =>
      rw [hv] at h'
      cases hu : evPs ρ σ r with
      | none => rw [hu] at h'; cases h'
      | some us =>
        rw [hu] at h'
        cases h'
        exact evP_ok (e := e) hv (evPs_ok (es := r) hu q)
end

section
variable {S : Spec} {ρ ρ' : Loc} {σ σ' : Store} {Q : FPost} {r : List Mine.S}

theorem ite_no {c a b : Prop} [Decidable c] (h : ¬ c) (hb : b) : if c then a else b := by rw [if_neg h]; exact hb
theorem ite_yes {c a b : Prop} [Decidable c] (h : c) (ha : a) : if c then a else b := by rw [if_pos h]; exact ha
theorem isDict_L {p : Addr} {m : Bool} {l : List V} (h : σ p = some (.list m l)) : ¬ isDict σ (.ref p) = true := by
  show ¬ (match σ p with | some (.ds ..) => true | some (.di ..) => true | _ => false) = true
  rw [h]; exact fun h => nomatch h
theorem isDict_D {p : Addr} {m : Bool} {es : List (Str × V)} (h : σ p = some (.ds m es)) : isDict σ (.ref p) = true := by
  show (match σ p with | some (.ds ..) => true | some (.di ..) => true | _ => false) = true
  rw [h]
theorem wpSs_append {a b : List Mine.S} : ∀ {ρ σ Q}, wpSs S (a ++ b) ρ σ Q ↔ wpSs S a ρ σ fun f ρ' σ' => match f with | .next => wpSs S b ρ' σ' Q | .ret v => Q (.ret v) ρ' σ' := by
  induction a with
  | nil => exact fun {_ _ _} => Iff.rfl
  | cons s a ih =>
    intro ρ σ Q
    refine iff_of_eq (congrArg (wpS S s ρ σ) ?_)
    funext f ρ' σ'
    cases f with
    | next => exact propext ih
    | ret v => rfl

theorem st_nil (h : Q .next ρ σ) : wpSs S [] ρ σ Q := h
theorem st_asg {i : Nat} {e : X} {v : V} (he : evP ρ σ e = some v) (h : wpSs S r (ρ.set i v) σ Q) : wpSs S (.asg (.one i) e :: r) ρ σ Q := evP_ok (e := e) he ⟨_, rfl, h⟩
theorem st_asgE {i : Nat} {e : X} (h : wpE S e ρ σ fun v σ₁ => wpSs S r (ρ.set i v) σ₁ Q) : wpSs S (.asg (.one i) e :: r) ρ σ Q := by
  exact cast (congrArg (wpE S e ρ σ) (funext fun v => funext fun σ₁ => propext ⟨fun h => ⟨_, rfl, h⟩, fun ⟨_, e, h⟩ => by cases e; exact h⟩)) h
theorem st_many {is : List Nat} {e : X} {l : List V} (he : evP ρ σ e = some (.tup l)) (hb : bindMany is l ρ = some ρ') (h : wpSs S r ρ' σ Q) : wpSs S (.asg (.many is) e :: r) ρ σ Q := evP_ok (e := e) he ⟨_, hb, h⟩
theorem st_manyE {is : List Nat} {e : X} (h : wpE S e ρ σ fun v σ₁ => ∃ ρ', bindT (.many is) v ρ = some ρ' ∧ wpSs S r ρ' σ₁ Q) : wpSs S (.asg (.many is) e :: r) ρ σ Q := h
theorem st_ret {e : X} {v : V} (he : evP ρ σ e = some v) (h : Q (.ret v) ρ σ) : wpSs S (.ret e :: r) ρ σ Q := evP_ok (e := e) he h
theorem st_retE {e : X} (h : wpE S e ρ σ fun v σ₁ => Q (.ret v) ρ σ₁) : wpSs S (.ret e :: r) ρ σ Q := h
theorem st_ifE {c : X} {a b : List Mine.S} (h : wpE S c ρ σ (asBool fun t σ₁ => wpSs S ((if t = true then a else b) ++ r) ρ σ₁ Q)) : wpSs S (.ite c a b :: r) ρ σ Q := by
  refine cast (congrArg (wpE S c ρ σ) (congrArg asBool ?_)) h
  funext t σ₁
  cases t with
  | true => exact propext wpSs_append
  | false => exact propext wpSs_append
theorem st_if {c : X} {a b : List Mine.S} {t : Bool} (he : evP ρ σ c = some (.bool t)) (h : wpSs S ((if t = true then a else b) ++ r) ρ σ Q) : wpSs S (.ite c a b :: r) ρ σ Q := st_ifE (evP_ok he h)
theorem st_yes {c : X} {a b : List Mine.S} (he : evP ρ σ c = some (.bool true)) (h : wpSs S (a ++ r) ρ σ Q) : wpSs S (.ite c a b :: r) ρ σ Q := st_if he h
theorem st_no {c : X} {a b : List Mine.S} (he : evP ρ σ c = some (.bool false)) (h : wpSs S (b ++ r) ρ σ Q) : wpSs S (.ite c a b :: r) ρ σ Q := st_if he h
theorem st_app {o : Nat} {e : X} {p : Addr} {l : List V} {v : V} (ho : ρ o = some (.ref p)) (hp : σ p = some (.list true l)) (he : evP ρ σ e = some v) (hz : l.length ≤ 1000000) (h : wpSs S r ρ (σ.set p (.list true (l ++ [v]))) Q) : wpSs S (.expr (.append (.var o) e) :: r) ρ σ Q := ⟨_, ho, p, l, rfl, hp, evP_ok (e := e) he ⟨l, hp, hz, h⟩⟩
theorem wp_call {f : Nat} {args : List X} {vs : List V} {Q : Post} (ha : evPs ρ σ args = some vs) (h : S f vs σ Q) : wpE S (.call f args) ρ σ Q := evPs_ok (es := args) ha h
theorem st_expr {e : X} (h : wpE S e ρ σ fun v σ₁ => match v with | .none => wpSs S r ρ σ₁ Q | .bool _ => wpSs S r ρ σ₁ Q | _ => False) : wpSs S (.expr e :: r) ρ σ Q := h
theorem st_setS {o i e : X} {p : Addr} {es : List (Str × V)} {x : Str} {v : V} (he : evP ρ σ e = some v) (ho : evP ρ σ o = some (.ref p)) (hi : evP ρ σ i = some (.str x)) (hp : σ p = some (.ds true es)) (hz : es.length ≤ 1000000) (h : wpSs S r ρ (σ.set p (.ds true (put es x v))) Q) : wpSs S (.setItem o i e :: r) ρ σ Q := by
  refine evP_ok (e := e) he (evP_ok (e := o) ho (evP_ok (e := i) hi ?_))
  unfold setV
  refine ⟨p, rfl, ?_⟩
  rw [hp]
  exact ⟨hz, h⟩

theorem st_forL {t : Tgt} {it : X} {body : List Mine.S} {p : Addr} {m : Bool} {l : List V} (hi : evP ρ σ it = some (.ref p)) (hp : σ p = some (.list m l))
    (h : forW (fun σ' => ∃ m', σ' p = some (.list m' l)) (fun v ρ σ Q => ∃ ρ', bindT t v ρ = some ρ' ∧ wpSs S body ρ' σ Q) l ρ σ fun f ρ' σ' => match f with | .next => wpSs S r ρ' σ' Q | .ret v => Q (.ret v) ρ' σ') : wpSs S (.for t it body :: r) ρ σ Q := by
  refine evP_ok (e := it) hi ?_
  refine ite_no (isDict_L hp) ?_
  exact ⟨_, _, .list hp, h⟩
theorem st_forS {t : Tgt} {it : X} {body : List Mine.S} {x : Str} (hi : evP ρ σ it = some (.str x))
    (h : forW (fun _ => True) (fun v ρ σ Q => ∃ ρ', bindT t v ρ = some ρ' ∧ wpSs S body ρ' σ Q) (strItems x) ρ σ fun f ρ' σ' => match f with | .next => wpSs S r ρ' σ' Q | .ret v => Q (.ret v) ρ' σ') : wpSs S (.for t it body :: r) ρ σ Q := by
  refine evP_ok (e := it) hi (ite_no (fun h => nomatch h) ?_)
  exact ⟨_, _, .str, h⟩
theorem st_forR {t : Tgt} {it : X} {body : List Mine.S} {n : Int} (hi : evP ρ σ it = some (.rng 0 n)) (hn : 0 ≤ n ∧ n ≤ 1000000)
    (h : forW (fun _ => True) (fun v ρ σ Q => ∃ ρ', bindT t v ρ = some ρ' ∧ wpSs S body ρ' σ Q) (rngItems 0 n) ρ σ fun f ρ' σ' => match f with | .next => wpSs S r ρ' σ' Q | .ret v => Q (.ret v) ρ' σ') : wpSs S (.for t it body :: r) ρ σ Q := by
  refine evP_ok (e := it) hi (ite_no (fun h => nomatch h) ?_)
  exact ⟨_, _, .rng (by omega), h⟩
theorem st_forD {t : Tgt} {it : X} {body : List Mine.S} {p : Addr} {m : Bool} {es : List (Str × V)} (hi : evP ρ σ it = some (.ref p)) (hp : σ p = some (.ds m es))
    (h : forW (fun _ => True) (fun v ρ σ Q => ∃ ρ', bindT t v ρ = some ρ' ∧ wpSs S body ρ' σ Q) (es.map fun e => V.str e.1) ρ (σ.set p (.ds false es)) fun f ρ' σ' => σ' p = some (.ds false es) ∧ match f with | .next => wpSs S r ρ' (σ'.set p (.ds m es)) Q | .ret v => Q (.ret v) ρ' (σ'.set p (.ds m es))) : wpSs S (.for t it body :: r) ρ σ Q := by
  refine evP_ok (e := it) hi (ite_yes (isDict_D hp) ?_)
  exact ⟨p, _, _, rfl, hp, rfl, h⟩
end
end Mine

namespace Mine
open PySem
theorem we_var {S : Spec} {ρ : Loc} {σ : Store} {Q : Post} {i} : wpE S (.var i) ρ σ Q = (∃ v, ρ i = some v ∧ Q v σ) := rfl
theorem we_cst {S : Spec} {ρ : Loc} {σ : Store} {Q : Post} {v} : wpE S (.cst v) ρ σ Q = (Q v σ) := rfl
theorem we_gl {S : Spec} {ρ : Loc} {σ : Store} {Q : Post} {z0} {v} : wpE S (.gl z0 v) ρ σ Q = (Q v σ) := rfl
theorem we_bin {S : Spec} {ρ : Loc} {σ : Store} {Q : Post} {o} {a} {b} : wpE S (.bin o a b) ρ σ Q = (wpE S a ρ σ fun va σ₁ => wpE S b ρ σ₁ fun vb σ₂ => wpBin o va vb σ₂ Q) := rfl
theorem we_cmp {S : Spec} {ρ : Loc} {σ : Store} {Q : Post} {o} {a} {b} : wpE S (.cmp o a b) ρ σ Q = (wpE S a ρ σ fun va σ₁ => wpE S b ρ σ₁ fun vb σ₂ => ∃ r, cmpV o va vb σ₂ = some r ∧ Q (.bool r) σ₂) := rfl
theorem we_cmp2 {S : Spec} {ρ : Loc} {σ : Store} {Q : Post} {o} {p} {a} {b} {c} : wpE S (.cmp2 o p a b c) ρ σ Q = (wpE S a ρ σ fun va σ₁ => wpE S b ρ σ₁ fun vb σ₂ => ∃ r, cmpV o va vb σ₂ = some r ∧
      if r = true then wpE S c ρ σ₂ fun vc σ₃ => ∃ r', cmpV p vb vc σ₃ = some r' ∧ Q (.bool r') σ₃ else Q (.bool false) σ₂) := rfl
theorem we_and {S : Spec} {ρ : Loc} {σ : Store} {Q : Post} {a} {b} : wpE S (.and a b) ρ σ Q = (wpE S a ρ σ (asBool fun t σ₁ => if t = true then wpE S b ρ σ₁ Q else Q (.bool false) σ₁)) := rfl
theorem we_or {S : Spec} {ρ : Loc} {σ : Store} {Q : Post} {a} {b} : wpE S (.or a b) ρ σ Q = (wpE S a ρ σ (asBool fun t σ₁ => if t = true then Q (.bool true) σ₁ else wpE S b ρ σ₁ Q)) := rfl
theorem we_not {S : Spec} {ρ : Loc} {σ : Store} {Q : Post} {a} : wpE S (.not a) ρ σ Q = (wpE S a ρ σ (asBool fun t σ₁ => Q (.bool !t) σ₁)) := rfl
theorem we_sub {S : Spec} {ρ : Loc} {σ : Store} {Q : Post} {a} {i} : wpE S (.sub a i) ρ σ Q = (wpE S a ρ σ fun va σ₁ => wpE S i ρ σ₁ fun vi σ₂ => ∃ v, subV σ₂ va vi = some v ∧ Q v σ₂) := rfl
theorem we_slc {S : Spec} {ρ : Loc} {σ : Store} {Q : Post} {a} {lo} {hi} : wpE S (.slc a lo hi) ρ σ Q = (wpE S a ρ σ fun va σ₁ => wpE S lo ρ σ₁ fun vl σ₂ => wpE S hi ρ σ₂ fun vh σ₃ =>
      ∃ p m l i j, va = .ref p ∧ σ₃ p = some (.list m l) ∧ l.length ≤ 1000000 ∧ cutAt l.length 0 vl = some i ∧ cutAt l.length l.length vh = some j ∧ fresh σ₃ (.list true ((l.drop i).take (j - i))) Q) := rfl
theorem we_rev {S : Spec} {ρ : Loc} {σ : Store} {Q : Post} {a} : wpE S (.rev a) ρ σ Q = (wpE S a ρ σ fun va σ₁ => ∃ p m l, va = .ref p ∧ σ₁ p = some (.list m l) ∧ l.length ≤ 1000000 ∧ fresh σ₁ (.list true l.reverse) Q) := rfl
theorem we_list {S : Spec} {ρ : Loc} {σ : Store} {Q : Post} {es} : wpE S (.list es) ρ σ Q = (wpEs S es ρ σ fun vs σ₁ => fresh σ₁ (.list true vs) Q) := rfl
theorem we_tup {S : Spec} {ρ : Loc} {σ : Store} {Q : Post} {es} : wpE S (.tup es) ρ σ Q = (wpEs S es ρ σ fun vs σ₁ => Q (.tup vs) σ₁) := rfl
theorem we_dict0 {S : Spec} {ρ : Loc} {σ : Store} {Q : Post} : wpE S (.dict0) ρ σ Q = (fresh σ (.di true []) Q) := rfl
theorem we_dict1 {S : Spec} {ρ : Loc} {σ : Store} {Q : Post} {k} {v} : wpE S (.dict1 k v) ρ σ Q = (wpE S k ρ σ fun vk σ₁ => wpE S v ρ σ₁ fun vv σ₂ => ∃ x, vk = .str x ∧ fresh σ₂ (.ds true [(x, vv)]) Q) := rfl
theorem we_comp {S : Spec} {ρ : Loc} {σ : Store} {Q : Post} {t} {it} {elt} : wpE S (.comp t it elt) ρ σ Q = (wpE S it ρ σ fun vi σ₁ => ∃ items ok, Src σ₁ vi items ok ∧ items.length ≤ 1000000 ∧
      compW ok (fun v σ Q => (∃ ρ', bindT t v ρ = some ρ') ∧ Q true σ) (fun v σ Q => ∃ ρ', bindT t v ρ = some ρ' ∧ wpE S elt ρ' σ Q) items [] σ₁ fun acc σ₂ => fresh σ₂ (.list true acc) Q) := rfl
theorem we_compIf {S : Spec} {ρ : Loc} {σ : Store} {Q : Post} {t} {it} {c} {elt} : wpE S (.compIf t it c elt) ρ σ Q = (wpE S it ρ σ fun vi σ₁ => ∃ items ok, Src σ₁ vi items ok ∧ items.length ≤ 1000000 ∧
      compW ok (fun v σ Q => ∃ ρ', bindT t v ρ = some ρ' ∧ wpE S c ρ' σ (asBool Q)) (fun v σ Q => ∃ ρ', bindT t v ρ = some ρ' ∧ wpE S elt ρ' σ Q) items [] σ₁ fun acc σ₂ => fresh σ₂ (.list true acc) Q) := rfl
theorem we_call {S : Spec} {ρ : Loc} {σ : Store} {Q : Post} {f} {args} : wpE S (.call f args) ρ σ Q = (wpEs S args ρ σ fun vs σ₁ => S f vs σ₁ Q) := rfl
theorem we_len {S : Spec} {ρ : Loc} {σ : Store} {Q : Post} {a} : wpE S (.len a) ρ σ Q = (wpE S a ρ σ fun va σ₁ => ∃ n, lenV σ₁ va = some n ∧ n ≤ 1000000 ∧ Q (.int n) σ₁) := rfl
theorem we_listOf {S : Spec} {ρ : Loc} {σ : Store} {Q : Post} {a} : wpE S (.listOf a) ρ σ Q = (wpE S a ρ σ fun va σ₁ => ∃ items, seqOf σ₁ va = some items ∧ items.length ≤ 1000000 ∧ fresh σ₁ (.list true items) Q) := rfl
theorem we_dictOf {S : Spec} {ρ : Loc} {σ : Store} {Q : Post} {a} : wpE S (.dictOf a) ρ σ Q = (wpE S a ρ σ fun va σ₁ => ∃ p m es, va = .ref p ∧ σ₁ p = some (.ds m es) ∧ es.length ≤ 1000000 ∧ fresh σ₁ (.ds true es) Q) := rfl
theorem we_tupleOf {S : Spec} {ρ : Loc} {σ : Store} {Q : Post} {a} : wpE S (.tupleOf a) ρ σ Q = (wpE S a ρ σ fun va σ₁ => ∃ p m l, va = .ref p ∧ σ₁ p = some (.list m l) ∧ l.length ≤ 1000000 ∧ Q (.tup l) σ₁) := rfl
theorem we_isi {S : Spec} {ρ : Loc} {σ : Store} {Q : Post} {a} {t} : wpE S (.isi a t) ρ σ Q = (wpE S a ρ σ fun va σ₁ => ∃ r, tyV σ₁ va t = some r ∧ Q (.bool r) σ₁) := rfl
theorem we_max2 {S : Spec} {ρ : Loc} {σ : Store} {Q : Post} {a} {b} : wpE S (.max2 a b) ρ σ Q = (wpE S a ρ σ fun va σ₁ => wpE S b ρ σ₁ fun vb σ₂ => ∃ i j, va = .int i ∧ vb = .int j ∧ Q (.int (max i j)) σ₂) := rfl
theorem we_minOf {S : Spec} {ρ : Loc} {σ : Store} {Q : Post} {a} : wpE S (.minOf a) ρ σ Q = (wpE S a ρ σ fun va σ₁ => ∃ p m l i r, va = .ref p ∧ σ₁ p = some (.list m l) ∧ l.length ≤ 1000000 ∧ intsOf l = some (i :: r) ∧ Q (.int (r.foldl min i)) σ₁) := rfl
theorem we_sorted {S : Spec} {ρ : Loc} {σ : Store} {Q : Post} {a} : wpE S (.sorted a) ρ σ Q = (wpE S a ρ σ fun va σ₁ => ∃ p m l, va = .ref p ∧ σ₁ p = some (.list m l) ∧ l.length ≤ 1000000 ∧
      ((∃ is, intsOf l = some is ∧ fresh σ₁ (.list true ((is.mergeSort (fun a b => decide (a ≤ b))).map .int)) Q) ∨
       (∃ ps, pairsOf l = some ps ∧ fresh σ₁ (.list true ((ps.mergeSort (fun a b => decide (a.1 < b.1 ∨ (a.1 = b.1 ∧ a.2 ≤ b.2)))).map fun p => .tup [.int p.1, .int p.2])) Q))) := rfl
theorem we_rng1 {S : Spec} {ρ : Loc} {σ : Store} {Q : Post} {b} : wpE S (.rng1 b) ρ σ Q = (wpE S b ρ σ fun vb σ₁ => ∃ j, vb = .int j ∧ Q (.rng 0 j) σ₁) := rfl
theorem we_rng2 {S : Spec} {ρ : Loc} {σ : Store} {Q : Post} {a} {b} : wpE S (.rng2 a b) ρ σ Q = (wpE S a ρ σ fun va σ₁ => wpE S b ρ σ₁ fun vb σ₂ => ∃ i j, va = .int i ∧ vb = .int j ∧ Q (.rng i j) σ₂) := rfl
theorem we_append {S : Spec} {ρ : Loc} {σ : Store} {Q : Post} {o} {a} : wpE S (.append o a) ρ σ Q = (wpE S o ρ σ fun vo σ₁ => ∃ p l₀, vo = .ref p ∧ σ₁ p = some (.list true l₀) ∧ wpE S a ρ σ₁ fun va σ₂ => ∃ l, σ₂ p = some (.list true l) ∧ l.length ≤ 1000000 ∧ Q .none (σ₂.set p (.list true (l ++ [va])))) := rfl
theorem we_insert0 {S : Spec} {ρ : Loc} {σ : Store} {Q : Post} {o} {a} : wpE S (.insert0 o a) ρ σ Q = (wpE S o ρ σ fun vo σ₁ => ∃ p l₀, vo = .ref p ∧ σ₁ p = some (.list true l₀) ∧ wpE S a ρ σ₁ fun va σ₂ => ∃ l, σ₂ p = some (.list true l) ∧ l.length ≤ 1000000 ∧ Q .none (σ₂.set p (.list true (va :: l)))) := rfl
theorem we_pop {S : Spec} {ρ : Loc} {σ : Store} {Q : Post} {o} : wpE S (.pop o) ρ σ Q = (wpE S o ρ σ fun vo σ₁ => ∃ p l v, vo = .ref p ∧ σ₁ p = some (.list true (l ++ [v])) ∧ l.length ≤ 1000000 ∧ Q v (σ₁.set p (.list true l))) := rfl
theorem we_get1 {S : Spec} {ρ : Loc} {σ : Store} {Q : Post} {o} {k} : wpE S (.get1 o k) ρ σ Q = (wpE S o ρ σ fun vo σ₁ => ∃ p m es, vo = .ref p ∧ σ₁ p = some (.ds m es) ∧ wpE S k ρ σ₁ fun vk σ₂ => ∃ m' es' x, vk = .str x ∧ σ₂ p = some (.ds m' es') ∧ Q ((look es' x).getD .none) σ₂) := rfl
theorem we_get2 {S : Spec} {ρ : Loc} {σ : Store} {Q : Post} {o} {k} {d} : wpE S (.get2 o k d) ρ σ Q = (wpE S o ρ σ fun vo σ₁ => ∃ p m es, vo = .ref p ∧ σ₁ p = some (.ds m es) ∧ wpE S k ρ σ₁ fun vk σ₂ => wpE S d ρ σ₂ fun vd σ₃ => ∃ m' es' x, vk = .str x ∧ σ₃ p = some (.ds m' es') ∧ Q ((look es' x).getD vd) σ₃) := rfl
theorem we_nil {S : Spec} {ρ : Loc} {σ : Store} {Q : List V → Store → Prop} : wpEs S [] ρ σ Q = Q [] σ := rfl
theorem we_cons {S : Spec} {ρ : Loc} {σ : Store} {Q : List V → Store → Prop} {e : X} {r : List X} : wpEs S (e :: r) ρ σ Q = (wpE S e ρ σ fun v σ₁ => wpEs S r ρ σ₁ fun vs σ₂ => Q (v :: vs) σ₂) := rfl
theorem list_sub {σ : Store} {p : Addr} {m : Bool} {l : List V} {i : Int} {v : V} (hp : σ p = some (.list m l)) (h0 : 0 ≤ i) (h : l[i.toNat]? = some v) : subV σ (.ref p) (.int i) = some v := by
  show (match σ p, V.int i with | some (.list _ l), .int i => idxL l i | some (.ds _ es), .str k => look es k | some (.di _ es), .int k => look es k | _, _ => Option.none) = _
  rw [hp]; show idxL l i = _; unfold idxL; rw [if_pos h0]; exact h

theorem eqI_t {i j : Int} {σ : Store} (h : i = j) : cmpV .eq (.int i) (.int j) σ = some true := congrArg some (decide_eq_true h)
theorem eqI_f {i j : Int} {σ : Store} (h : ¬ i = j) : cmpV .eq (.int i) (.int j) σ = some false := congrArg some (decide_eq_false h)
theorem neI_t {i j : Int} {σ : Store} (h : ¬ i = j) : cmpV .ne (.int i) (.int j) σ = some true := congrArg (fun t => some !t) (decide_eq_false h)
theorem neI_f {i j : Int} {σ : Store} (h : i = j) : cmpV .ne (.int i) (.int j) σ = some false := congrArg (fun t => some !t) (decide_eq_true h)
theorem len_list {σ : Store} {a : Addr} {m : Bool} {l : List V} (h : σ a = some (.list m l)) : lenV σ (.ref a) = some l.length := by
  show (match σ a with | some (.list _ l) => some l.length | some (.ds _ es) => some es.length | some (.di _ es) => some es.length | _ => none) = _
  rw [h]
theorem len_map {α : Type} {f : α → V} {σ : Store} {a : Addr} {m : Bool} {l : List α} (h : σ a = some (.list m (l.map f))) : lenV σ (.ref a) = some l.length := by
  rw [len_list h, List.length_map]
theorem binMod {x y : Int} (h : 0 < y) : binP .mod (.int x) (.int y) = some (.int (x % y)) := if_pos h
theorem binMulS {x : Str} {n : Int} (h : 0 ≤ n ∧ n ≤ 1000000 ∧ x.length ≤ 12) : binP .mul (.str x) (.int n) = some (.str (strRep x n.toNat)) := if_pos h
theorem binAddS {x y : Str} (h : x.length + y.length ≤ 1000000) : binP .add (.str x) (.str y) = some (.str (x ++ y)) := if_pos h
theorem wb_add {i j : Int} {σ : Store} {Q : Post} (h : Q (.int (i + j)) σ) : wpBin .add (.int i) (.int j) σ Q := h
theorem binMul7 {x y : Int} (h : x.natAbs < 2 ^ 60) : binP .mul (.int x) (.int y) = some (.int (x * y)) := if_pos (.inl h)
theorem asB {Q : Bool → Store → Prop} {t : Bool} {σ : Store} (h : Q t σ) : asBool Q (.bool t) σ := h
section
variable {ρ : Loc} {σ : Store} {a b : X} {x y v : V}
theorem bind2 {f : V → V → Option V} {p q : Option V} {r : Option V} (ha : p = some x) (hb : q = some y) (h : f x y = r) : (p.bind fun x => q.bind fun y => f x y) = r := by rw [ha, hb]; exact h
theorem ev_bin {o : BOp} (ha : evP ρ σ a = some x) (hb : evP ρ σ b = some y) (h : binP o x y = some v) : evP ρ σ (.bin o a b) = some v := bind2 (f := binP o) ha hb h
theorem ev_sub (ha : evP ρ σ a = some x) (hb : evP ρ σ b = some y) (h : subV σ x y = some v) : evP ρ σ (.sub a b) = some v := bind2 (f := subV σ) ha hb h
theorem ev_cmp {o : COp} {t : Bool} (ha : evP ρ σ a = some x) (hb : evP ρ σ b = some y) (h : cmpV o x y σ = some t) : evP ρ σ (.cmp o a b) = some (.bool t) := bind2 (f := fun x y => (cmpV o x y σ).map .bool) ha hb (congrArg (Option.map V.bool) h)
theorem ev_len {n : Nat} (ha : evP ρ σ a = some x) (h : lenV σ x = some n) (hz : n ≤ 1000000) : evP ρ σ (.len a) = some (.int n) := by
  show (evP ρ σ a).bind (lenP σ) = _
  rw [ha]; show lenP σ x = _; unfold lenP; rw [h]; exact if_pos hz
theorem ev_var {i : Nat} (h : ρ i = some v) : evP ρ σ (.var i) = some v := h
theorem ev_rng1 {n : Int} (h : evP ρ σ b = some (.int n)) : evP ρ σ (.rng1 b) = some (.rng 0 n) := by show (evP ρ σ b).bind _ = _; rw [h]; rfl
theorem ev_rng2 {m n : Int} (ha : evP ρ σ a = some (.int m)) (h : evP ρ σ b = some (.int n)) : evP ρ σ (.rng2 a b) = some (.rng m n) := bind2 (f := rngP) ha h rfl
theorem ev_tup {es : List X} {vs : List V} (h : evPs ρ σ es = some vs) : evP ρ σ (.tup es) = some (.tup vs) := congrArg (Option.map V.tup) h
theorem ev_nil : evPs ρ σ [] = some [] := rfl
theorem ev_cons {es : List X} {vs : List V} (ha : evP ρ σ a = some x) (h : evPs ρ σ es = some vs) : evPs ρ σ (a :: es) = some (x :: vs) := by show (evP ρ σ a).bind _ = _; rw [ha]; exact congrArg (Option.map (x :: ·)) h
theorem ev_and {p q : Bool} (ha : evP ρ σ a = some (.bool p)) (hb : p = true → evP ρ σ b = some (.bool q)) : evP ρ σ (.and a b) = some (.bool (p && q)) := by
  show andP (evP ρ σ a) (evP ρ σ b) = _
  rw [ha]
  cases p with
  | true => exact hb rfl
  | false => rfl
theorem ev_or {p q : Bool} (ha : evP ρ σ a = some (.bool p)) (hb : p = false → evP ρ σ b = some (.bool q)) : evP ρ σ (.or a b) = some (.bool (p || q)) := by
  show orP (evP ρ σ a) (evP ρ σ b) = _
  rw [ha]
  cases p with
  | true => rfl
  | false => exact hb rfl
theorem ev_orF (ha : evP ρ σ a = some (.bool false)) (hb : evP ρ σ b = some (.bool false)) : evP ρ σ (.or a b) = some (.bool false) := ev_or ha fun _ => hb
theorem ev_not {p : Bool} (ha : evP ρ σ a = some (.bool p)) : evP ρ σ (.not a) = some (.bool !p) := by
  show (evP ρ σ a).bind notP = _
  rw [ha]; rfl
theorem ev_eqS {p q : Str} (ha : evP ρ σ a = some (.str p)) (hb : evP ρ σ b = some (.str q)) : evP ρ σ (.cmp .eq a b) = some (.bool (decide (p = q))) := ev_cmp ha hb rfl
theorem ev_neS {p q : Str} (ha : evP ρ σ a = some (.str p)) (hb : evP ρ σ b = some (.str q)) : evP ρ σ (.cmp .ne a b) = some (.bool !(decide (p = q))) := ev_cmp ha hb rfl
theorem ev_eqI {p q : Int} (ha : evP ρ σ a = some (.int p)) (hb : evP ρ σ b = some (.int q)) : evP ρ σ (.cmp .eq a b) = some (.bool (decide (p = q))) := ev_cmp ha hb rfl
theorem ev_neI {p q : Int} (ha : evP ρ σ a = some (.int p)) (hb : evP ρ σ b = some (.int q)) : evP ρ σ (.cmp .ne a b) = some (.bool !(decide (p = q))) := ev_cmp ha hb rfl
theorem ev_ltI {p q : Int} (ha : evP ρ σ a = some (.int p)) (hb : evP ρ σ b = some (.int q)) : evP ρ σ (.cmp .lt a b) = some (.bool (decide (p < q))) := ev_cmp ha hb rfl
theorem ev_leI {p q : Int} (ha : evP ρ σ a = some (.int p)) (hb : evP ρ σ b = some (.int q)) : evP ρ σ (.cmp .le a b) = some (.bool (decide (p ≤ q))) := ev_cmp ha hb rfl
theorem ev_add {p q : Int} (ha : evP ρ σ a = some (.int p)) (hb : evP ρ σ b = some (.int q)) : evP ρ σ (.bin .add a b) = some (.int (p + q)) := ev_bin ha hb rfl
theorem ev_subI {p q : Int} (ha : evP ρ σ a = some (.int p)) (hb : evP ρ σ b = some (.int q)) : evP ρ σ (.bin .sub a b) = some (.int (p - q)) := ev_bin ha hb rfl
theorem ev_list {d : Addr} {m : Bool} {l : List V} {i : Int} (h : σ d = some (.list m l)) (h0 : 0 ≤ i) (hg : l[i.toNat]? = some v) (ha : evP ρ σ a = some (.ref d)) (hb : evP ρ σ b = some (.int i)) : evP ρ σ (.sub a b) = some v := ev_sub ha hb (list_sub h h0 hg)
theorem ev_tupAt {l : List V} {i : Int} (h0 : 0 ≤ i) (hg : l[i.toNat]? = some v) (ha : evP ρ σ a = some (.tup l)) (hb : evP ρ σ b = some (.int i)) : evP ρ σ (.sub a b) = some v := ev_sub ha hb (by show idxL l i = _; unfold idxL; rw [if_pos h0]; exact hg)
theorem ev_lenL {d : Addr} {m : Bool} {l : List V} (h : σ d = some (.list m l)) (hz : l.length ≤ 1000000) (ha : evP ρ σ a = some (.ref d)) : evP ρ σ (.len a) = some (.int l.length) := ev_len ha (by show (match σ d with | some (.list _ l) => some l.length | some (.ds _ es) => some es.length | some (.di _ es) => some es.length | _ => none) = _; rw [h]) hz
theorem set_var {i j : Nat} {w : V} (h : (i == j) = false) (e : ρ i = some v) : (ρ.set j w) i = some v := by
  show (if i = j then some w else ρ i) = some v
  rw [if_neg (by simpa using h)]; exact e
end

end Mine

namespace Mine
open PySem
/-- a place's name -/
noncomputable def Place (x : Str) : Prop := 1 ≤ x.length ∧ x.length ≤ 12 ∧ ∀ c ∈ x.cps.toList, 97 ≤ c ∧ c ≤ 122
noncomputable def abc : Str := Str.ofString "abcdefghijklmnopqrstuvwxyz"
theorem in_abc {c : Nat} (h : 97 ≤ c ∧ c ≤ 122) : subStr ⟨#[c]⟩ abc = true := by
  have key : ∀ k : Fin 26, subStr ⟨#[97 + k.val]⟩ abc = true := by decide +kernel
  have := key ⟨c - 97, by omega⟩
  simpa [show 97 + (c - 97) = c by omega] using this

theorem ev_cmp2 {ρ : Loc} {σ : Store} {a b c : X} {x y z : V} {o p : COp} {t : Bool} (ha : evP ρ σ a = some x) (hb : evP ρ σ b = some y) (hc : evP ρ σ c = some z) (h1 : cmpV o x y σ = some true) (h2 : cmpV p y z σ = some t) : evP ρ σ (.cmp2 o p a b c) = some (.bool t) := by
  refine bind2 (f := fun x y => cmp2P σ o p x y (evP ρ σ c)) ha hb ?_
  show cmp2P σ o p x y (evP ρ σ c) = _
  unfold cmp2P
  rw [h1, hc]
  exact congrArg (Option.map V.bool) h2
theorem le_true {i j : Int} {σ : Store} (h : i ≤ j) : cmpV .le (.int i) (.int j) σ = some true := congrArg some (decide_eq_true h)
theorem lt_true {i j : Int} {σ : Store} (h : i < j) : cmpV .lt (.int i) (.int j) σ = some true := congrArg some (decide_eq_true h)
theorem lt_false {i j : Int} {σ : Store} (h : ¬ i < j) : cmpV .lt (.int i) (.int j) σ = some false := congrArg some (decide_eq_false h)
theorem gt_false {i j : Int} {σ : Store} (h : ¬ i > j) : cmpV .gt (.int i) (.int j) σ = some false := congrArg some (decide_eq_false h)
theorem eqS_false {x y : Str} {σ : Store} (h : x ≠ y) : cmpV .eq (.str x) (.str y) σ = some false := congrArg some (decide_eq_false h)

theorem is_whole_ok {k : Nat} {i a b : Int} {σ : Store} {Q : Post} (h : a ≤ i ∧ i ≤ b) (q : Q (.bool true) σ) : specAt P (k + 1) 0 [.int i, .int a, .int b] σ Q :=
  spec_of (xs := f_is_whole) rfl rfl (st_ret (v := .bool (true && (true && true))) (ev_and rfl fun _ => ev_and rfl fun _ => ev_cmp2 rfl rfl rfl (le_true h.1) (le_true h.2)) q)

theorem is_place_ok {k : Nat} {x : Str} {σ : Store} {Q : Post} (h : Place x) (q : Q (.bool true) σ) : specAt P (k + 1) 1 [.str x] σ Q := by
  obtain ⟨h1, h2, h3⟩ := h
  have hl : evP (fun i => [V.str x][i]?) σ (.len (.var 0)) = some (.int x.length) := ev_len rfl rfl (Nat.le_trans h2 (by decide))
  refine spec_of (xs := f_is_place) rfl rfl (st_no (ev_orF rfl (ev_orF (ev_cmp hl (y := .int 1) rfl (lt_false (by omega))) (ev_cmp hl (y := .int 12) rfl (gt_false (by omega))))) ?_)
  refine st_forS rfl (forW_of (fun _ _ σ' => σ' = σ) (fun _ _ _ _ _ => trivial) ?_ ?_ rfl)
  · rintro k v ρ σ K hv rfl hn hr
    unfold strItems at hv
    rw [List.getElem?_map] at hv
    obtain ⟨c, hc, rfl⟩ := Option.map_eq_some_iff.mp hv
    have hi : cmpV .notin (.str ⟨#[c]⟩) (.str (Str.ofString "abcdefghijklmnopqrstuvwxyz")) σ = some false := congrArg (fun t => some !t) (in_abc (h3 c (List.mem_of_getElem? hc)))
    exact ⟨_, rfl, st_no (ev_cmp rfl rfl hi) (st_nil (hn _ _ rfl))⟩
  · rintro ρ σ rfl
    exact st_ret rfl q

abbrev Ride := Str × Str × Int
abbrev Trip := Str × Int × Str × Int
noncomputable def rideV (r : Ride) : V := .tup [.str r.1, .str r.2.1, .int r.2.2]
noncomputable def tripV (t : Trip) : V := .tup [.str t.1, .int t.2.1, .str t.2.2.1, .int t.2.2.2]
noncomputable def RideOK (r : Ride) : Prop := Place r.1 ∧ Place r.2.1 ∧ r.1 ≠ r.2.1 ∧ 1 ≤ r.2.2 ∧ r.2.2 ≤ 9999
noncomputable def TripOK (t : Trip) : Prop := Place t.1 ∧ Place t.2.2.1 ∧ 0 ≤ t.2.1 ∧ t.2.1 < t.2.2.2 ∧ t.2.2.2 ≤ 99999


theorem is_ride_ok {k : Nat} {r : Ride} {σ : Store} {Q : Post} (h : RideOK r) (q : Q (.bool true) σ) : specAt P (k + 2) 2 [rideV r] σ Q := by
  obtain ⟨x, y, m⟩ := r
  obtain ⟨h1, h2, h3, h4, h5⟩ := h
  refine spec_of (xs := f_is_ride) rfl rfl (st_no rfl (st_ifE ?_))
  show wpE _ (.call 1 [.sub (.var 0) (.cst (.int 0))]) _ _ _
  refine wp_call (vs := [.str x]) rfl (is_place_ok h1 ?_)
  show wpE _ (.call 1 [.sub (.var 0) (.cst (.int 1))]) _ _ _
  refine wp_call (vs := [.str y]) rfl (is_place_ok h2 ?_)
  show wpE _ (.cmp .eq (.sub (.var 0) (.cst (.int 0))) (.sub (.var 0) (.cst (.int 1)))) _ _ _
  refine evP_ok (ev_cmp (x := .str x) (y := .str y) rfl rfl (eqS_false h3)) ?_
  exact st_retE (wp_call (vs := [.int m, .int 1, .int 9999]) rfl (is_whole_ok ⟨h4, h5⟩ q))

theorem is_trip_ok {k : Nat} {t : Trip} {σ : Store} {Q : Post} (h : TripOK t) (q : Q (.bool true) σ) : specAt P (k + 2) 3 [tripV t] σ Q := by
  obtain ⟨x, l, y, m⟩ := t
  obtain ⟨h1, h2, h3, h4, h5⟩ := h
  have h6 : l ≤ 99999 := Int.le_trans (Int.le_of_lt h4) h5
  have h7 : 0 ≤ m := Int.le_trans h3 (Int.le_of_lt h4)
  refine spec_of (xs := f_is_trip) rfl rfl (st_no rfl (st_ifE ?_))
  show wpE _ (.call 1 [.sub (.var 0) (.cst (.int 0))]) _ _ _
  refine wp_call (vs := [.str x]) rfl (is_place_ok h1 ?_)
  show wpE _ (.call 1 [.sub (.var 0) (.cst (.int 2))]) _ _ _
  refine wp_call (vs := [.str y]) rfl (is_place_ok h2 (st_ifE ?_))
  show wpE _ (.call 0 [.sub (.var 0) (.cst (.int 1)), .cst (.int 0), .gl (Str.ofString "MOST_MINUTE") (.int 99999)]) _ _ _
  refine wp_call (vs := [.int l, .int 0, .int 99999]) rfl (is_whole_ok ⟨h3, h6⟩ ?_)
  show wpE _ (.call 0 [.sub (.var 0) (.cst (.int 3)), .cst (.int 0), .gl (Str.ofString "MOST_MINUTE") (.int 99999)]) _ _ _
  refine wp_call (vs := [.int m, .int 0, .int 99999]) rfl (is_whole_ok ⟨h7, h5⟩ ?_)
  refine asB (asB ?_)
  exact st_ret (ev_cmp (x := .int l) (y := .int m) rfl rfl (lt_true h4)) q

theorem need_place_ok {k : Nat} {x : Str} {σ : Store} {Q : Post} (h : Place x) (q : Q .none σ) : specAt P (k + 2) 5 [.str x] σ Q := by
  refine spec_of (xs := f_need_place) rfl rfl (st_ifE ?_)
  show wpE _ (.call 1 [.var 0]) _ _ _
  refine wp_call (vs := [.str x]) rfl (is_place_ok h ?_)
  exact st_nil (S := specAt P (k + 1)) (ρ := fun i => [V.str x][i]?) (Q := fun fl _ σ' => Q (match fl with | .ret v => v | .next => .none) σ') q

theorem need_all_ok {k : Nat} {a b : Addr} {m m' : Bool} {rs : List Ride} {ts : List Trip} {σ : Store} {Q : Post} (ha : σ a = some (.list m (rs.map rideV))) (hb : σ b = some (.list m' (ts.map tripV))) (hr : ∀ r ∈ rs, RideOK r) (ht : ∀ t ∈ ts, TripOK t) (q : Q .none σ) :
    specAt P (k + 3) 4 [.ref a, .ref b] σ Q := by
  refine spec_of (xs := f_need_all) rfl rfl (st_forL rfl ha (forW_of (fun _ ρ' σ' => σ' = σ ∧ ρ' 1 = some (.ref b)) (fun _ _ _ _ h => by rw [h.1]; exact ⟨_, ha⟩) ?_ ?_ ⟨rfl, rfl⟩))
  · rintro j v ρ σ₁ K hv ⟨rfl, hρ⟩ hn hx
    rw [List.getElem?_map] at hv
    obtain ⟨r, hr', rfl⟩ := Option.map_eq_some_iff.mp hv
    refine ⟨_, rfl, st_ifE ?_⟩
    show wpE _ (.call 2 [.var 2]) _ _ _
    exact wp_call (vs := [rideV r]) rfl (is_ride_ok (hr r (List.mem_of_getElem? hr')) (st_nil (S := specAt P (k + 2)) (hn _ _ ⟨rfl, hρ⟩)))
  · rintro ρ σ₁ ⟨rfl, hρ⟩
    refine st_forL (ev_var hρ) hb (forW_of (fun _ ρ' σ' => σ' = σ₁) (fun _ _ _ _ h => by rw [h]; exact ⟨_, hb⟩) ?_ ?_ rfl)
    · rintro j v ρ σ K hv rfl hn hx
      rw [List.getElem?_map] at hv
      obtain ⟨t, ht', rfl⟩ := Option.map_eq_some_iff.mp hv
      refine ⟨_, rfl, st_ifE ?_⟩
      show wpE _ (.call 3 [.var 3]) _ _ _
      exact wp_call (vs := [tripV t]) rfl (is_trip_ok (ht t (List.mem_of_getElem? ht')) (st_nil (S := specAt P (k + 2)) (hn _ _ rfl)))
    · rintro ρ σ rfl
      exact st_nil q
end Mine

namespace Mine
open PySem
noncomputable def tripRoad (t : Trip) : List Ride := if t.1 = t.2.2.1 then [] else [(t.1, t.2.2.1, t.2.2.2 - t.2.1)]
noncomputable def roadsOf (rs : List Ride) (ts : List Trip) : List Ride := rs ++ ts.flatMap tripRoad

theorem tripRoad_len (ts : List Trip) : (ts.flatMap tripRoad).length ≤ ts.length := by
  induction ts with
  | nil => simp
  | cons t ts ih =>
    rw [List.flatMap_cons, List.length_append, List.length_cons]
    have : (tripRoad t).length ≤ 1 := by unfold tripRoad; split <;> simp
    omega
theorem take_more {α : Type} {l : List α} {k : Nat} {x : α} (h : l[k]? = some x) : l.take (k + 1) = l.take k ++ [x] := by
  rw [List.take_add_one, h]; rfl
theorem neS_false {x y : Str} {σ : Store} (h : x = y) : cmpV .ne (.str x) (.str y) σ = some false := congrArg (fun t => some !t) (decide_eq_true h)
theorem neS_true {x y : Str} {σ : Store} (h : x ≠ y) : cmpV .ne (.str x) (.str y) σ = some true := congrArg (fun t => some !t) (decide_eq_false h)
theorem seq_list {σ : Store} {a : Addr} {m : Bool} {l : List V} (h : σ a = some (.list m l)) : seqOf σ (.ref a) = some l := by
  show (match σ a with | some (.list _ l) => some l | _ => none) = _
  rw [h]
theorem flat_same {x y : Str} {l c : Int} (h : x = y) : [((x, l, y, c) : Trip)].flatMap tripRoad = [] := by
  show tripRoad (x, l, y, c) ++ [] = []
  rw [List.append_nil]; exact if_pos h
theorem flat_other {x y : Str} {l c : Int} (h : x ≠ y) : [((x, l, y, c) : Trip)].flatMap tripRoad = [(x, y, c - l)] := by
  show tripRoad (x, l, y, c) ++ [] = _
  rw [List.append_nil]; exact if_neg h
theorem take_len {α : Type} {l : List α} {k : Nat} : (l.take k).length ≤ l.length := by simp; omega

theorem roads_small {rs : List Ride} {ts : List Trip} {j : Nat} (hz : rs.length + ts.length ≤ 1000) : ((rs ++ (ts.take j).flatMap tripRoad).map rideV).length ≤ 1000000 := by
  have h1 := tripRoad_len (ts.take j)
  have h2 := take_len (l := ts) (k := j)
  rw [List.length_map, List.length_append]; omega
theorem all_roads_ok {k : Nat} {a b : Addr} {m m' : Bool} {rs : List Ride} {ts : List Trip} {σ : Store} {Q : Post} (ha : σ a = some (.list m (rs.map rideV))) (hb : σ b = some (.list m' (ts.map tripV))) (hz : rs.length + ts.length ≤ 1000)
    (q : ∀ d, σ d = none → Q (.ref d) (σ.set d (.list true ((roadsOf rs ts).map rideV)))) : specAt P (k + 1) 6 [.ref a, .ref b] σ Q := by
  refine spec_of (xs := f_all_roads) rfl rfl ?_
  unfold f_all_roads
  refine st_asgE ?_
  refine ⟨_, rfl, _, seq_list ha, by rw [List.length_map]; omega, fun d hd => ?_⟩
  have hbd : b ≠ d := by rintro rfl; rw [hd] at hb; cases hb
  have hb' : ∀ o, (σ.set d o) b = some (.list m' (ts.map tripV)) := fun o => by rw [set_ne hbd]; exact hb
  refine st_forL (p := b) rfl (hb' _) (forW_of (fun j ρ' σ' => σ' = σ.set d (.list true ((rs ++ (ts.take j).flatMap tripRoad).map rideV)) ∧ ρ' 2 = some (.ref d)) (fun _ _ _ _ h => by rw [h.1]; exact ⟨_, hb' _⟩) ?_ ?_ ⟨by rw [List.take_zero, List.flatMap_nil, List.append_nil], rfl⟩)
  · rintro j v ρ _ K hv ⟨rfl, hρ⟩ hn hx
    rw [List.getElem?_map] at hv
    obtain ⟨⟨x, l, y, c⟩, ht', rfl⟩ := Option.map_eq_some_iff.mp hv
    refine ⟨_, rfl, ?_⟩
    by_cases hxy : x = y
    · refine st_no (ev_cmp (x := .str x) (y := .str y) rfl rfl (neS_false hxy)) (st_nil (hn _ _ ⟨?_, hρ⟩))
      rw [take_more ht', List.flatMap_append, flat_same hxy, List.append_nil]
    · refine st_yes (ev_cmp (x := .str x) (y := .str y) rfl rfl (neS_true hxy)) (st_app (v := rideV (x, y, c - l)) hρ set_self rfl ?_ (st_nil (hn _ _ ⟨?_, hρ⟩)))
      · exact roads_small hz
      · rw [take_more ht', set_set, List.flatMap_append, flat_other hxy, ← List.append_assoc, List.map_append (l₂ := [_])]; rfl
  · rintro ρ σ' ⟨rfl, hρ⟩
    refine st_ret (v := .ref d) hρ ?_
    rw [List.length_map, List.take_length]
    exact q d hd

theorem law_roads_ok {k : Nat} {a b : Addr} {m m' : Bool} {rs : List Ride} {ts : List Trip} {σ : Store} {Q : Post} (ha : σ a = some (.list m (rs.map rideV))) (hb : σ b = some (.list m' (ts.map tripV))) (hz : rs.length + ts.length ≤ 1000)
    (q : ∀ d, σ d = none → Q (.ref d) (σ.set d (.list true ((roadsOf rs ts).map rideV)))) : specAt P (k + 1) 14 [.ref a, .ref b] σ Q := by
  refine spec_of (xs := f_law_roads) rfl rfl ?_
  unfold f_law_roads
  refine st_asgE ?_
  refine ⟨_, rfl, _, seq_list ha, by rw [List.length_map]; omega, fun d hd => ?_⟩
  have hbd : b ≠ d := by rintro rfl; rw [hd] at hb; cases hb
  have hb' : ∀ o, (σ.set d o) b = some (.list m' (ts.map tripV)) := fun o => by rw [set_ne hbd]; exact hb
  refine st_forL (p := b) rfl (hb' _) (forW_of (fun j ρ' σ' => σ' = σ.set d (.list true ((rs ++ (ts.take j).flatMap tripRoad).map rideV)) ∧ ρ' 2 = some (.ref d)) (fun _ _ _ _ h => by rw [h.1]; exact ⟨_, hb' _⟩) ?_ ?_ ⟨by rw [List.take_zero, List.flatMap_nil, List.append_nil], rfl⟩)
  · rintro j v ρ _ K hv ⟨rfl, hρ⟩ hn hx
    rw [List.getElem?_map] at hv
    obtain ⟨⟨x, l, y, c⟩, ht', rfl⟩ := Option.map_eq_some_iff.mp hv
    refine ⟨_, rfl, ?_⟩
    by_cases hxy : x = y
    · refine st_no (ev_cmp (x := .str x) (y := .str y) rfl rfl (neS_false hxy)) (st_nil (hn _ _ ⟨?_, hρ⟩))
      rw [take_more ht', List.flatMap_append, flat_same hxy, List.append_nil]
    · refine st_yes (ev_cmp (x := .str x) (y := .str y) rfl rfl (neS_true hxy)) (st_app (v := rideV (x, y, c - l)) hρ set_self rfl ?_ (st_nil (hn _ _ ⟨?_, hρ⟩)))
      · exact roads_small hz
      · rw [take_more ht', set_set, List.flatMap_append, flat_other hxy, ← List.append_assoc, List.map_append (l₂ := [_])]; rfl
  · rintro ρ σ' ⟨rfl, hρ⟩
    refine st_ret (v := .ref d) hρ ?_
    rw [List.length_map, List.take_length]
    exact q d hd

/-- the script's cell -/
noncomputable def cellAt (ns : List Int) (k : Nat) : Int := ns[k]?.getD 0
theorem cell_ok {k : Nat} {a : Addr} {m : Bool} {ns : List Int} {j : Nat} {σ : Store} {Q : Post} (ha : σ a = some (.list m (ns.map .int))) (hz : ns.length ≤ 63) (q : Q (.int (cellAt ns j)) σ) : specAt P (k + 1) 10 [.ref a, .int j] σ Q := by
  refine spec_of (xs := f_law_cell_at) rfl rfl ?_
  unfold f_law_cell_at
  have hl : evP (fun i => [V.ref a, .int j][i]?) σ (.len (.var 0)) = some (.int ns.length) := by
    have := ev_lenL (ρ := fun i => [V.ref a, .int j][i]?) (a := .var 0) ha (by rw [List.length_map]; exact Nat.le_trans hz (by decide)) rfl
    rw [List.length_map] at this; exact this
  by_cases h : j < ns.length
  · refine st_yes (ev_cmp rfl hl (lt_true (Int.ofNat_lt.mpr h))) (st_ret (v := .int (cellAt ns j)) (ev_list ha (Int.ofNat_nonneg j) ?_ rfl rfl) q)
    unfold cellAt
    rw [Int.toNat_natCast, List.getElem?_map, List.getElem?_eq_getElem h]; rfl
  · refine st_no (ev_cmp rfl hl (lt_false fun h' => h (Int.ofNat_lt.mp h'))) (st_ret rfl ?_)
    have : cellAt ns j = 0 := by unfold cellAt; rw [List.getElem?_eq_none (Nat.le_of_not_lt h)]; rfl
    rw [this] at q; exact q
end Mine

namespace Mine
open PySem

/-! least minutes, in plain words -/
abbrev Es := List (Str × Int)
noncomputable def esV (es : Es) : List (Str × V) := es.map fun e => (e.1, V.int e.2)
noncomputable def getE (es : Es) (x : Str) : Option Int := (es.find? fun e => e.1 = x).map (·.2)
noncomputable def putE (es : Es) (x : Str) (v : Int) : Es := if es.any (fun e => e.1 = x) then es.map (fun e => if e.1 = x then (e.1, v) else e) else es ++ [(x, v)]

theorem look_esV (es : Es) (x : Str) : look (esV es) x = (getE es x).map V.int := by
  unfold look esV getE
  induction es with
  | nil => rfl
  | cons e es ih =>
    simp only [List.map_cons, List.find?_cons]
    by_cases h : e.1 = x
    · simp [h]
    · simpa [h] using ih
theorem put_esV (es : Es) (x : Str) (v : Int) : put (esV es) x (.int v) = esV (putE es x v) := by
  unfold put putE esV
  have : (es.map fun e => (e.1, V.int e.2)).any (fun e => e.1 = x) = es.any (fun e => e.1 = x) := by
    rw [List.any_map]; rfl
  rw [this]
  split
  · rw [List.map_map, List.map_map]
    refine List.map_congr_left fun e _ => ?_
    simp only [Function.comp]
    split <;> rfl
  · simp
theorem any_get (es : Es) (x : Str) : es.any (fun e => e.1 = x) = (getE es x).isSome := by
  unfold getE
  induction es with
  | nil => rfl
  | cons e es ih =>
    simp only [List.any_cons, List.find?_cons]
    by_cases h : e.1 = x
    · simp [h]
    · simpa [h] using ih
theorem get_put (es : Es) (x y : Str) (v : Int) : getE (putE es x v) y = if y = x then some v else getE es y := by
  unfold putE
  split
  · rename_i h
    induction es with
    | nil => simp at h
    | cons e es ih =>
      simp only [getE, List.map_cons, List.find?_cons] at ih ⊢
      by_cases he : e.1 = x
      · simp only [he, if_true]
        by_cases hy : y = x
        · simp [hy]
        · simp only [hy, if_false, show ¬ (x = y) from fun z => hy z.symm, decide_false]
          by_cases h2 : (es.any fun e => e.1 = x) = true
          · have := ih h2
            simpa [hy] using this
          · have h3 : ∀ e ∈ es, ¬ e.1 = x := fun e he' z => h2 (List.any_eq_true.mpr ⟨e, he', by simpa using z⟩)
            have : es.map (fun e => if e.1 = x then (e.1, v) else e) = es := by
              conv => rhs; rw [← List.map_id es]
              refine List.map_congr_left fun e he' => ?_
              rw [if_neg (h3 e he')]; rfl
            rw [this]
      · simp only [he, if_false]
        have h2 : (es.any fun e => e.1 = x) = true := by simpa [he] using h
        by_cases hy : e.1 = y
        · simp only [hy, decide_true]
          have : ¬ (y = x) := fun z => he (hy.trans z)
          simp [this]
        · simp only [hy, decide_false]
          exact ih h2
  · rename_i h
    have h3 : getE es x = none := by
      have := any_get es x
      rw [Bool.eq_false_iff.mpr h] at this
      cases hg : getE es x with
      | none => rfl
      | some _ => rw [hg] at this; cases this
    unfold getE at h3 ⊢
    rw [List.find?_append]
    by_cases hy : y = x
    · subst hy
      have h4 : es.find? (fun e => e.1 = y) = none := by
        cases hf : es.find? (fun e => decide (e.1 = y)) with
        | none => rfl
        | some _ => rw [hf] at h3; cases h3
      rw [h4]; simp
    · have : ¬ (x = y) := fun z => hy z.symm
      simp [hy, this]
theorem keys_put (es : Es) (x : Str) (v : Int) : (putE es x v).map (·.1) = if (getE es x).isSome = true then es.map (·.1) else es.map (·.1) ++ [x] := by
  unfold putE
  rw [any_get]
  split
  · rw [List.map_map]
    refine List.map_congr_left fun e _ => ?_
    simp only [Function.comp]; split <;> rfl
  · simp
theorem get_mem {es : Es} {x : Str} {v : Int} (h : getE es x = some v) : (x, v) ∈ es := by
  unfold getE at h
  obtain ⟨e, he, rfl⟩ := Option.map_eq_some_iff.mp h
  have h1 := List.mem_of_find?_eq_some he
  have h2 := List.find?_some he
  simp only [decide_eq_true_eq] at h2
  rw [← h2]; exact h1
theorem mem_get {es : Es} (hn : (es.map (·.1)).Nodup) {e : Str × Int} (h : e ∈ es) : getE es e.1 = some e.2 := by
  unfold getE
  induction es with
  | nil => cases h
  | cons a es ih =>
    simp only [List.map_cons, List.nodup_cons] at hn
    rw [List.find?_cons]
    rcases List.mem_cons.mp h with rfl | h
    · simp
    · have : ¬ (a.1 = e.1) := fun z => hn.1 (z ▸ List.mem_map.mpr ⟨e, h, rfl⟩)
      simp only [this, decide_false]
      exact ih hn.2 h

noncomputable def sumE (es : Es) : Nat := (es.map fun e => e.2.toNat).sum
theorem sum_le {α : Type} {f g : α → Nat} : ∀ {l : List α}, (∀ e ∈ l, f e ≤ g e) → (l.map f).sum ≤ (l.map g).sum
  | [], _ => by simp
  | a :: l, h => by
    simp only [List.map_cons, List.sum_cons]
    have := h a (.head _)
    have := sum_le (l := l) fun e he => h e (List.mem_cons_of_mem _ he)
    omega
theorem sum_lt {α : Type} {f g : α → Nat} : ∀ {l : List α}, (∀ e ∈ l, f e ≤ g e) → (∃ e ∈ l, f e < g e) → (l.map f).sum < (l.map g).sum
  | [], _, h => by obtain ⟨_, h, _⟩ := h; cases h
  | a :: l, h, h' => by
    simp only [List.map_cons, List.sum_cons]
    have h1 := h a (.head _)
    have h2 := sum_le (l := l) fun e he => h e (List.mem_cons_of_mem _ he)
    obtain ⟨e, he, hlt⟩ := h'
    rcases List.mem_cons.mp he with rfl | he
    · omega
    · have := sum_lt (l := l) (fun e he => h e (List.mem_cons_of_mem _ he)) ⟨e, he, hlt⟩
      omega
theorem nodup_len {α : Type} [DecidableEq α] : ∀ {l m : List α}, l.Nodup → (∀ x ∈ l, x ∈ m) → l.length ≤ m.length
  | [], _, _, _ => by simp
  | x :: l, m, hn, h => by
    rw [List.nodup_cons] at hn
    have hx := h x (.head _)
    have := nodup_len (l := l) (m := m.erase x) hn.2 fun y hy => (List.mem_erase_of_ne fun z => hn.1 (by rw [← z]; exact hy)).mpr (h y (List.mem_cons_of_mem _ hy))
    rw [List.length_erase_of_mem hx] at this
    have : 0 < m.length := List.length_pos_of_mem hx
    simp only [List.length_cons]; omega

noncomputable def relax (es : Es) (r : Ride) : Option Es :=
  match getE es r.1 with
  | none => none
  | some d => match getE es r.2.1 with
    | none => some (putE es r.2.1 (d + r.2.2))
    | some d' => if d + r.2.2 < d' then some (putE es r.2.1 (d + r.2.2)) else none
noncomputable def passStep (p : Es × Bool) (r : Ride) : Es × Bool := match relax p.1 r with | none => p | some e => (e, true)

structure EInv (roads : List Ride) (place : Str) (es : Es) : Prop where
  zero : getE es place = some 0
  pos : ∀ x v, getE es x = some v → 0 ≤ v
  back : ∀ x v, getE es x = some v → x ≠ place → ∃ r ∈ roads, r.2.1 = x ∧ ∃ d, getE es r.1 = some d ∧ d + r.2.2 ≤ v
  nd : (es.map (·.1)).Nodup
  sub : ∀ x ∈ es.map (·.1), x ∈ place :: roads.map (·.2.1)

theorem EInv.len {roads : List Ride} {place : Str} {es : Es} (h : EInv roads place es) : es.length ≤ roads.length + 1 := by
  have := nodup_len h.nd h.sub
  simpa using this

noncomputable def less (a b : Es) : Prop := b.length < a.length ∨ (a.length = b.length ∧ sumE a < sumE b)
theorem less.trans {a b c : Es} (h : less a b) (h' : less b c) : less a c := by
  unfold less at *
  omega

theorem relax_inv {roads : List Ride} {place : Str} (hp : ∀ r ∈ roads, 1 ≤ r.2.2) {es es' : Es} {r : Ride} (hr : r ∈ roads) (h : EInv roads place es) (e : relax es r = some es') : EInv roads place es' ∧ less es' es := by
  unfold relax at e
  split at e
  · cases e
  · rename_i d hd
    have hd0 := h.pos _ _ hd
    have hm := hp r hr
    have goal : ∀ (hc : ∀ v, getE es r.2.1 = some v → d + r.2.2 < v), EInv roads place (putE es r.2.1 (d + r.2.2)) ∧ less (putE es r.2.1 (d + r.2.2)) es := by
      intro hc
      have hne : r.2.1 ≠ place := fun z => by
        have := hc 0 (by rw [z]; exact h.zero)
        omega
      have self : r.1 ≠ r.2.1 := fun z => by
        have := hc d (by rw [← z]; exact hd)
        omega
      refine ⟨⟨?_, ?_, ?_, ?_, ?_⟩, ?_⟩
      · rw [get_put, if_neg (fun z => hne z.symm)]; exact h.zero
      · intro x v hv
        rw [get_put] at hv
        split at hv
        · cases hv; omega
        · exact h.pos _ _ hv
      · intro x v hv hx
        rw [get_put] at hv
        split at hv
        · rename_i hxe
          cases hv
          exact ⟨r, hr, hxe.symm, d, by rw [get_put, if_neg self]; exact hd, by omega⟩
        · rename_i hxe
          obtain ⟨r', hr', h1, d', h2, h3⟩ := h.back x v hv hx
          refine ⟨r', hr', h1, ?_⟩
          rw [get_put]
          by_cases hz : r'.1 = r.2.1
          · rw [if_pos hz]
            have := hc d' (by rw [← hz]; exact h2)
            exact ⟨_, rfl, by omega⟩
          · rw [if_neg hz]; exact ⟨d', h2, h3⟩
      · rw [keys_put]
        split
        · exact h.nd
        · rename_i hs
          rw [List.nodup_append]
          refine ⟨h.nd, by simp, fun a ha b hb => ?_⟩
          simp at hb; subst hb
          rintro rfl
          obtain ⟨e, he, h1⟩ := List.mem_map.mp ha
          have := mem_get h.nd he
          rw [h1] at this
          rw [this] at hs; exact hs rfl
      · intro x hx
        rw [keys_put] at hx
        split at hx
        · exact h.sub x hx
        · rcases List.mem_append.mp hx with hx | hx
          · exact h.sub x hx
          · simp at hx; subst hx
            exact List.mem_cons_of_mem _ (List.mem_map.mpr ⟨r, hr, rfl⟩)
      · unfold less
        cases hg : getE es r.2.1 with
        | none =>
          left
          have := congrArg List.length (keys_put es r.2.1 (d + r.2.2))
          rw [hg] at this
          simp at this
          omega
        | some v =>
          right
          have hl := congrArg List.length (keys_put es r.2.1 (d + r.2.2))
          rw [hg] at hl
          simp at hl
          refine ⟨hl, ?_⟩
          have hlt := hc v hg
          have hv := h.pos _ _ hg
          unfold sumE putE
          rw [any_get, hg]
          simp only [Option.isSome_some, if_true, List.map_map]
          refine sum_lt (fun e he => ?_) ⟨(r.2.1, v), get_mem hg, ?_⟩
          · simp only [Function.comp]
            split
            · rename_i he1
              have := mem_get h.nd he
              rw [he1, hg] at this
              cases this
              simp only; omega
            · exact Nat.le_refl _
          · simp only [Function.comp, if_true]; omega
    split at e
    · rename_i hg
      cases e
      exact goal fun v hv => by rw [hg] at hv; cases hv
    · rename_i d' hg
      split at e
      · rename_i hlt
        cases e
        exact goal fun v hv => by rw [hg] at hv; cases hv; exact hlt
      · cases e

theorem pass_inv {roads : List Ride} {place : Str} (hp : ∀ r ∈ roads, 1 ≤ r.2.2) : ∀ {rs : List Ride} {p : Es × Bool}, (∀ r ∈ rs, r ∈ roads) → EInv roads place p.1 →
    EInv roads place (rs.foldl passStep p).1 ∧ ((rs.foldl passStep p = p ∧ ∀ r ∈ rs, relax p.1 r = none) ∨ ((rs.foldl passStep p).2 = true ∧ less (rs.foldl passStep p).1 p.1))
  | [], p, _, h => ⟨h, .inl ⟨rfl, fun _ h => by cases h⟩⟩
  | r :: rs, p, hs, h => by
    simp only [List.foldl_cons]
    have hs' : ∀ r ∈ rs, r ∈ roads := fun x hx => hs x (List.mem_cons_of_mem _ hx)
    cases hr : relax p.1 r with
    | none =>
      have e : passStep p r = p := by unfold passStep; rw [hr]
      rw [e]
      obtain ⟨h1, h2⟩ := pass_inv hp hs' h
      refine ⟨h1, h2.imp (fun ⟨a, b⟩ => ⟨a, fun x hx => ?_⟩) id⟩
      rcases List.mem_cons.mp hx with rfl | hx
      · exact hr
      · exact b x hx
    | some es' =>
      have e : passStep p r = (es', true) := by unfold passStep; rw [hr]
      rw [e]
      obtain ⟨h3, h4⟩ := relax_inv hp (hs r (.head _)) h hr
      obtain ⟨h1, h2⟩ := pass_inv (p := (es', true)) hp hs' h3
      refine ⟨h1, .inr ?_⟩
      rcases h2 with ⟨a, b⟩ | ⟨a, b⟩
      · rw [a]; exact ⟨rfl, h4⟩
      · exact ⟨a, b.trans h4⟩
end Mine

namespace Mine
open PySem
theorem st_while {S : Spec} {ρ : Loc} {σ : Store} {Q : FPost} {r : List Mine.S} {c : X} {body : List Mine.S} {n : Nat} (h : whileW (fun ρ σ Q => wpE S c ρ σ (asBool Q)) (fun ρ σ Q => wpSs S body ρ σ Q) n ρ σ fun f ρ' σ' => match f with | .next => wpSs S r ρ' σ' Q | .ret v => Q (.ret v) ρ' σ') : wpSs S (.while c body :: r) ρ σ Q := by
  exact ⟨n, h⟩

theorem in_ds {σ : Store} {d : Addr} {m : Bool} {es : Es} {x : Str} (h : σ d = some (.ds m (esV es))) : inV σ (.str x) (.ref d) = some (getE es x).isSome := by
  show (match σ d with | some (.list _ l) => inL σ (.str x) l | some (.ds _ es) => some (look es x).isSome | some (.di _ es) => none | _ => none) = _
  rw [h]
  show some (look (esV es) x).isSome = _
  rw [look_esV]; cases getE es x <;> rfl
theorem sub_ds {σ : Store} {d : Addr} {m : Bool} {es : Es} {x : Str} (h : σ d = some (.ds m (esV es))) : subV σ (.ref d) (.str x) = (getE es x).map .int := by
  show (match σ d, V.str x with | some (.list _ l), .int i => idxL l i | some (.ds _ es), .str k => look es k | some (.di _ es), .int k => look es k | _, _ => Option.none) = _
  rw [h]
  exact look_esV es x
section
variable {ρ : Loc} {σ : Store} {a b : X} {x y v : V}
theorem ev_in {d : Addr} {m : Bool} {es : Es} {z : Str} (h : σ d = some (.ds m (esV es))) (ha : evP ρ σ a = some (.str z)) (hb : evP ρ σ b = some (.ref d)) : evP ρ σ (.cmp .isin a b) = some (.bool (getE es z).isSome) := ev_cmp ha hb (in_ds h)
theorem ev_nin {d : Addr} {m : Bool} {es : Es} {z : Str} (h : σ d = some (.ds m (esV es))) (ha : evP ρ σ a = some (.str z)) (hb : evP ρ σ b = some (.ref d)) : evP ρ σ (.cmp .notin a b) = some (.bool !(getE es z).isSome) := ev_cmp ha hb (show (inV σ _ _).map _ = _ by rw [in_ds h]; rfl)
theorem ev_at {d : Addr} {m : Bool} {es : Es} {z : Str} {i : Int} (h : σ d = some (.ds m (esV es))) (hz : getE es z = some i) (ha : evP ρ σ a = some (.ref d)) (hb : evP ρ σ b = some (.str z)) : evP ρ σ (.sub a b) = some (.int i) := ev_sub ha hb (by rw [sub_ds h, hz]; rfl)
end

noncomputable def bfB (es : Es) (r : Ride) : Bool := (getE es r.1).isSome && (!(getE es r.2.1).isSome || (match getE es r.1, getE es r.2.1 with | some dx, some dy => decide (dx + r.2.2 < dy) | _, _ => false))
theorem bfB_true {es : Es} {r : Ride} (h : bfB es r = true) : ∃ dx, getE es r.1 = some dx ∧ relax es r = some (putE es r.2.1 (dx + r.2.2)) := by
  unfold bfB at h; unfold relax
  cases h1 : getE es r.1 with
  | none => rw [h1] at h; cases h
  | some dx =>
    refine ⟨dx, rfl, ?_⟩
    rw [h1] at h
    cases h2 : getE es r.2.1 with
    | none => rfl
    | some dy => rw [h2] at h; exact if_pos (of_decide_eq_true h)
theorem bfB_false {es : Es} {r : Ride} (h : bfB es r = false) : relax es r = none := by
  unfold bfB at h; unfold relax
  cases h1 : getE es r.1 with
  | none => rfl
  | some dx =>
    rw [h1] at h
    cases h2 : getE es r.2.1 with
    | none => rw [h2] at h; cases h
    | some dy => rw [h2] at h; exact if_neg (of_decide_eq_false h)

noncomputable def bfBody : List Mine.S := [.asg (.one 3) (.cst (.bool false)), .for (.many [4, 5, 6]) (.var 0) [.ite (.and (.cmp .isin (.var 4) (.var 2)) (.or (.cmp .notin (.var 5) (.var 2)) (.cmp .lt (.bin .add (.sub (.var 2) (.var 4)) (.var 6)) (.sub (.var 2) (.var 5))))) [.setItem (.var 2) (.var 5) (.bin .add (.sub (.var 2) (.var 4)) (.var 6)), .asg (.one 3) (.cst (.bool true))] []]]

theorem bf_pass {S : Spec} {roads : List Ride} {place : Str} (hp : ∀ r ∈ roads, 1 ≤ r.2.2) (hz : roads.length ≤ 10000) {es : Es} (hI : EInv roads place es) {m : Bool} {a d : Addr} {ρ : Loc} {σ : Store} {Q : FPost} (h0 : ρ 0 = some (.ref a)) (h2 : ρ 2 = some (.ref d)) (hd : σ d = some (.ds true (esV es))) (ha : σ a = some (.list m (roads.map rideV)))
    (q : ∀ ρ', ρ' 0 = some (.ref a) → ρ' 2 = some (.ref d) → ρ' 3 = some (.bool (roads.foldl passStep (es, false)).2) → Q .next ρ' (σ.set d (.ds true (esV (roads.foldl passStep (es, false)).1)))) : wpSs S bfBody ρ σ Q := by
  have had : a ≠ d := by rintro rfl; rw [hd] at ha; cases ha
  unfold bfBody
  refine st_asg rfl ?_
  refine st_forL (p := a) (m := m) (l := roads.map rideV) h0 ha (forW_of (fun j ρ' σ' => σ' = σ.set d (.ds true (esV ((roads.take j).foldl passStep (es, false)).1)) ∧ ρ' 0 = some (.ref a) ∧ ρ' 2 = some (.ref d) ∧ ρ' 3 = some (.bool ((roads.take j).foldl passStep (es, false)).2)) ?_ ?_ ?_ ?_)
  · rintro j ρ' σ' _ ⟨rfl, _⟩
    exact ⟨m, by rw [set_ne had]; exact ha⟩
  · rintro j v ρ₁ _ K hv ⟨rfl, r0, r2, r3⟩ hn hx
    rw [List.getElem?_map] at hv
    obtain ⟨r, hr, rfl⟩ := Option.map_eq_some_iff.mp hv
    have hJ := (pass_inv (place := place) (rs := roads.take j) (p := (es, false)) hp (fun r hr => List.mem_of_mem_take hr) hI).1
    rw [take_more hr] at hn
    simp only [List.foldl_append, List.foldl_cons, List.foldl_nil] at hn
    generalize (roads.take j).foldl passStep (es, false) = p at *
    have hlen := hJ.len
    refine ⟨_, rfl, ?_⟩
    have hs : (σ.set d (.ds true (esV p.1))) d = some (.ds true (esV p.1)) := set_self
    have hc : evP (((ρ₁.set 4 (.str r.1)).set 5 (.str r.2.1)).set 6 (.int r.2.2)) (σ.set d (.ds true (esV p.1))) (.and (.cmp .isin (.var 4) (.var 2)) (.or (.cmp .notin (.var 5) (.var 2)) (.cmp .lt (.bin .add (.sub (.var 2) (.var 4)) (.var 6)) (.sub (.var 2) (.var 5))))) = some (.bool (bfB p.1 r)) := by
      refine ev_and (ev_in hs (ev_var rfl) (ev_var r2)) fun h1 => ev_or (ev_nin hs (ev_var rfl) (ev_var r2)) fun h2 => ?_
      cases hx1 : getE p.1 r.1 with
      | none => rw [hx1] at h1; cases h1
      | some dx =>
        cases hy1 : getE p.1 r.2.1 with
        | none => rw [hy1] at h2; cases h2
        | some dy => exact ev_ltI (ev_add (ev_at hs hx1 (ev_var r2) (ev_var rfl)) (ev_var rfl)) (ev_at hs hy1 (ev_var r2) (ev_var rfl))
    cases hb : bfB p.1 r with
    | false =>
      rw [hb] at hc
      have e : passStep p r = p := by unfold passStep; rw [bfB_false hb]
      rw [e] at hn
      exact st_no hc (st_nil (hn _ _ ⟨rfl, r0, r2, r3⟩))
    | true =>
      rw [hb] at hc
      obtain ⟨dx, hx1, hr1⟩ := bfB_true hb
      have e : passStep p r = (putE p.1 r.2.1 (dx + r.2.2), true) := by unfold passStep; rw [hr1]
      rw [e] at hn
      refine st_yes hc (st_setS (p := d) (x := r.2.1) (v := .int (dx + r.2.2)) (ev_add (ev_at hs hx1 (ev_var r2) (ev_var rfl)) (ev_var rfl)) (ev_var r2) rfl hs ?_ (st_asg rfl (st_nil (hn _ _ ?_))))
      · unfold esV; rw [List.length_map]; exact Nat.le_trans hlen (Nat.le_trans (Nat.succ_le_succ hz) (by decide))
      · rw [set_set, put_esV]; exact ⟨rfl, r0, r2, rfl⟩
  · rintro ρ' σ' ⟨rfl, r0, r2, r3⟩
    rw [List.length_map, List.take_length] at *
    exact st_nil (q ρ' r0 r2 r3)
  · exact ⟨(set_same hd).symm, h0, h2, rfl⟩

theorem bf_loop {roads : List Ride} {place : Str} (hp : ∀ r ∈ roads, 1 ≤ r.2.2) (hz : roads.length ≤ 10000) : ∀ es, EInv roads place es → ∃ es' n, EInv roads place es' ∧ (∀ r ∈ roads, relax es' r = none) ∧
    ∀ (S : Spec) (m : Bool) (a d : Addr) (ρ : Loc) (σ : Store) (Q : FPost), ρ 0 = some (.ref a) → ρ 2 = some (.ref d) → ρ 3 = some (.bool true) → σ d = some (.ds true (esV es)) → σ a = some (.list m (roads.map rideV)) →
      (∀ ρ', ρ' 2 = some (.ref d) → Q .next ρ' (σ.set d (.ds true (esV es')))) → whileW (fun ρ σ Q => wpE S (.var 3) ρ σ (asBool Q)) (fun ρ σ Q => wpSs S bfBody ρ σ Q) n ρ σ Q := by
  have key : ∀ k s es, roads.length + 1 - es.length = k → sumE es = s → EInv roads place es → ∃ es' n, EInv roads place es' ∧ (∀ r ∈ roads, relax es' r = none) ∧
    ∀ (S : Spec) (m : Bool) (a d : Addr) (ρ : Loc) (σ : Store) (Q : FPost), ρ 0 = some (.ref a) → ρ 2 = some (.ref d) → ρ 3 = some (.bool true) → σ d = some (.ds true (esV es)) → σ a = some (.list m (roads.map rideV)) →
      (∀ ρ', ρ' 2 = some (.ref d) → Q .next ρ' (σ.set d (.ds true (esV es')))) → whileW (fun ρ σ Q => wpE S (.var 3) ρ σ (asBool Q)) (fun ρ σ Q => wpSs S bfBody ρ σ Q) n ρ σ Q := by
    intro k
    induction k using Nat.strongRecOn with
    | ind k ihk =>
      intro s
      induction s using Nat.strongRecOn with
      | ind s ihs =>
        intro es hk hs hI
        obtain ⟨h1, h2⟩ := pass_inv (place := place) (rs := roads) (p := (es, false)) hp (fun r hr => hr) hI
        rcases h2 with ⟨h2, h3⟩ | ⟨h2, h3⟩
        · refine ⟨es, 2, hI, h3, fun S m a d ρ σ Q r0 r2 r3 hd ha q => ?_⟩
          refine evP_ok (S := S) (e := .var 3) (v := .bool true) r3 ?_
          show wpSs S bfBody ρ σ _
          refine bf_pass hp hz hI r0 r2 hd ha fun ρ' p0 p2 p3 => ?_
          rw [h2] at p3 ⊢
          exact evP_ok (S := S) (e := .var 3) (v := .bool false) p3 (q ρ' p2)
        · have hlen := h1.len
          have hlen0 := hI.len
          have ih : ∃ es' n, EInv roads place es' ∧ (∀ r ∈ roads, relax es' r = none) ∧
              ∀ (S : Spec) (m : Bool) (a d : Addr) (ρ : Loc) (σ : Store) (Q : FPost), ρ 0 = some (.ref a) → ρ 2 = some (.ref d) → ρ 3 = some (.bool true) → σ d = some (.ds true (esV (roads.foldl passStep (es, false)).1)) → σ a = some (.list m (roads.map rideV)) →
                (∀ ρ', ρ' 2 = some (.ref d) → Q .next ρ' (σ.set d (.ds true (esV es')))) → whileW (fun ρ σ Q => wpE S (.var 3) ρ σ (asBool Q)) (fun ρ σ Q => wpSs S bfBody ρ σ Q) n ρ σ Q := by
            rcases h3 with h3 | ⟨h3, h4⟩
            · exact ihk (roads.length + 1 - (roads.foldl passStep (es, false)).1.length) (by simp only at h3; omega) _ _ rfl rfl h1
            · exact ihs (sumE (roads.foldl passStep (es, false)).1) (by simp only at h4; omega) _ (by simp only at h3; omega) rfl h1
          obtain ⟨es', n, k1, k2, k3⟩ := ih
          refine ⟨es', n + 1, k1, k2, fun S m a d ρ σ Q r0 r2 r3 hd ha q => ?_⟩
          have had : a ≠ d := by rintro rfl; rw [hd] at ha; cases ha
          refine evP_ok (S := S) (e := .var 3) (v := .bool true) r3 ?_
          show wpSs S bfBody ρ σ _
          refine bf_pass hp hz hI r0 r2 hd ha fun ρ' p0 p2 p3 => ?_
          rw [h2] at p3
          refine k3 S m a d ρ' _ Q p0 p2 p3 set_self (by rw [set_ne had]; exact ha) fun ρ'' z => ?_
          rw [set_set]; exact q ρ'' z
  exact fun es h => key _ _ es rfl rfl h

/-- what is asked of the least minutes -/
structure Least (roads : List Ride) (place : Str) (es : Es) : Prop where
  inv : EInv roads place es
  done : ∀ r ∈ roads, relax es r = none

theorem least_from_ok {roads : List Ride} {place : Str} (hp : ∀ r ∈ roads, 1 ≤ r.2.2) (hz : roads.length ≤ 10000) : ∃ es, Least roads place es ∧
    ∀ (k : Nat) (σ : Store) (a : Addr) (m : Bool) (Q : Post), σ a = some (.list m (roads.map rideV)) → (∀ d, σ d = none → Q (.ref d) (σ.set d (.ds true (esV es)))) → specAt P (k + 1) 7 [.ref a, .str place] σ Q := by
  have h0 : EInv roads place [(place, 0)] := by
    refine ⟨by simp [getE], fun x v h => ?_, fun x v h hx => ?_, by simp, by simp⟩
    · simp only [getE, List.find?_cons, List.find?_nil] at h
      split at h <;> simp at h
      omega
    · simp only [getE, List.find?_cons, List.find?_nil] at h
      split at h
      · rename_i hh; simp at hh; exact absurd hh.symm hx
      · simp at h
  obtain ⟨es, n, h1, h2, h3⟩ := bf_loop hp hz _ h0
  refine ⟨es, ⟨h1, h2⟩, fun k σ a m Q ha q => ?_⟩
  refine spec_of (xs := f_least_from) rfl rfl ?_
  unfold f_least_from
  refine st_asgE ?_
  refine ⟨_, rfl, place, rfl, fun d hd => ?_⟩
  have had : a ≠ d := by rintro rfl; rw [hd] at ha; cases ha
  refine st_asg rfl (st_while (n := n) (h3 _ m a d _ _ _ rfl rfl rfl set_self (by rw [set_ne had]; exact ha) fun ρ' h => ?_))
  refine st_ret (v := .ref d) h ?_
  rw [set_set]
  exact q d hd
end Mine

namespace Mine
open PySem
section
variable {S : Spec} {ρ : Loc} {σ : Store} {Q : Post}
theorem wp_compR {i : Nat} {it elt : X} {n : Int} (hi : evP ρ σ it = some (.rng 0 n)) (hn : 0 ≤ n ∧ n ≤ 1000000) (f : Nat → V) (he : ∀ j : Nat, (j : Int) < n → evP (ρ.set i (.int j)) σ elt = some (f j))
    (q : ∀ d, σ d = none → Q (.ref d) (σ.set d (.list true ((List.range n.toNat).map f)))) : wpE S (.comp (.one i) it elt) ρ σ Q := by
  dsimp only [we_var, we_cst, we_gl, we_bin, we_cmp, we_cmp2, we_and, we_or, we_not, we_sub, we_slc, we_rev, we_list, we_tup, we_dict0, we_dict1, we_comp, we_compIf, we_call, we_len, we_listOf, we_dictOf, we_tupleOf, we_isi, we_max2, we_minOf, we_sorted, we_rng1, we_rng2, we_append, we_insert0, we_pop, we_get1, we_get2, we_nil, we_cons]
  refine evP_ok hi ⟨_, _, .rng (by omega), by rw [rng_len hn.1]; omega, ?_⟩
  refine compW_plain (b := fun v => ∃ ρ', bindT (.one i) v ρ = some ρ') (fun k acc σ' => σ' = σ ∧ acc = (List.range k).map f) (fun v _ => ⟨_, rfl⟩) (fun _ _ _ _ _ => trivial) ?_ ?_ ⟨rfl, rfl⟩
  · rintro k v acc σ' K hv ⟨rfl, rfl⟩ hk
    obtain ⟨rfl, hlt⟩ := rng_get hv
    refine ⟨_, rfl, evP_ok (he k hlt) (hk _ _ ⟨rfl, ?_⟩)⟩
    rw [List.range_succ, List.map_append]; rfl
  · rintro acc σ' ⟨rfl, rfl⟩ d hd
    rw [rng_len hn.1]
    exact q d hd
theorem wp_compL {t : Tgt} {it elt : X} {p : Addr} {m : Bool} {l : List V} (hi : evP ρ σ it = some (.ref p)) (hp : σ p = some (.list m l)) (hz : l.length ≤ 1000000) (f : V → V) (he : ∀ x ∈ l, ∃ ρ', bindT t x ρ = some ρ' ∧ evP ρ' σ elt = some (f x))
    (q : ∀ d, σ d = none → Q (.ref d) (σ.set d (.list true (l.map f)))) : wpE S (.comp t it elt) ρ σ Q := by
  dsimp only [we_var, we_cst, we_gl, we_bin, we_cmp, we_cmp2, we_and, we_or, we_not, we_sub, we_slc, we_rev, we_list, we_tup, we_dict0, we_dict1, we_comp, we_compIf, we_call, we_len, we_listOf, we_dictOf, we_tupleOf, we_isi, we_max2, we_minOf, we_sorted, we_rng1, we_rng2, we_append, we_insert0, we_pop, we_get1, we_get2, we_nil, we_cons]
  refine evP_ok hi ⟨_, _, .list hp, hz, ?_⟩
  refine compW_plain (b := fun v => ∃ ρ', bindT t v ρ = some ρ') (fun k acc σ' => σ' = σ ∧ acc = (l.take k).map f) (fun v hv => let ⟨ρ', h, _⟩ := he v hv; ⟨ρ', h⟩) (fun _ _ _ _ h => by rw [h.1]; exact ⟨_, hp⟩) ?_ ?_ ⟨rfl, rfl⟩
  · rintro k v acc σ' K hv ⟨rfl, rfl⟩ hk
    obtain ⟨ρ', h1, h2⟩ := he v (List.mem_of_getElem? hv)
    refine ⟨ρ', h1, evP_ok h2 (hk _ _ ⟨rfl, ?_⟩)⟩
    rw [take_more hv, List.map_append]; rfl
  · rintro acc σ' ⟨rfl, rfl⟩ d hd
    rw [List.take_length]
    exact q d hd
theorem wp_list {es : List X} {vs : List V} (h : evPs ρ σ es = some vs) (q : ∀ d, σ d = none → Q (.ref d) (σ.set d (.list true vs))) : wpE S (.list es) ρ σ Q := by
  exact evPs_ok (es := es) h fun d hd => q d hd
end

/-! names -/
noncomputable def letter (k : Nat) : Str := ⟨#[97 + k]⟩
theorem abc_at {k : Nat} (h : k < 26) : strAt abc k = some (letter k) := by
  have key : ∀ k : Fin 26, strAt abc k.val = some (letter k.val) := by decide +kernel
  exact key ⟨k, h⟩
noncomputable def word (l : List Nat) : Str := ⟨l.toArray⟩
theorem word_len (l : List Nat) : (word l).length = l.length := by simp [word, Str.length]
theorem word_place {l : List Nat} (h1 : 1 ≤ l.length) (h2 : l.length ≤ 12) (h3 : ∀ c ∈ l, 97 ≤ c ∧ c ≤ 122) : Place (word l) := by
  refine ⟨by rw [word_len]; exact h1, by rw [word_len]; exact h2, fun c hc => h3 c (by simpa [word] using hc)⟩
theorem word_inj {l l' : List Nat} (h : word l = word l') : l = l' := by
  unfold word at h
  have := congrArg (fun x : Str => x.cps.toList) h
  simpa using this
theorem rep_letter {k n : Nat} : strRep (letter k) n = word (List.replicate n (97 + k)) := by
  unfold strRep letter word
  congr 2
  induction n with
  | zero => rfl
  | succ n ih => rw [List.replicate_succ, List.flatten_cons, ih]; rfl
theorem word_app (l l' : List Nat) : word l ++ word l' = word (l ++ l') := by
  show (⟨l.toArray ++ l'.toArray⟩ : Str) = ⟨(l ++ l').toArray⟩
  congr 1
  simp
end Mine

namespace Mine
open PySem
theorem abc_sub {i : Int} {σ : Store} (h : 0 ≤ i ∧ i < 26) : subV σ (.str (Str.ofString "abcdefghijklmnopqrstuvwxyz")) (.int i) = some (.str (letter i.toNat)) := by
  have := abc_at (k := i.toNat) (by omega)
  show (if 0 ≤ i ∧ i < 1000 then (strAt abc i.toNat).map V.str else none) = _
  rw [if_pos ⟨h.1, Int.lt_trans h.2 (by decide)⟩]
  rw [this]; rfl
theorem mul_letter {k n : Nat} (h : n ≤ 1000) : binP .mul (.str (letter k)) (.int n) = some (.str (word (List.replicate n (97 + k)))) := by
  rw [binMulS (x := letter k) ⟨Int.natCast_nonneg n, by omega, (by decide : 1 ≤ 12)⟩, rep_letter]; rfl
theorem add_word {a b : List Nat} (h : a.length + b.length ≤ 1000) : binP .add (.str (word a)) (.str (word b)) = some (.str (word (a ++ b))) := by
  rw [binAddS (by rw [word_len, word_len]; exact Nat.le_trans h (by decide)), word_app]
structure NamesOK (ns : List Str) : Prop where
  place : ∀ x ∈ ns, Place x
  inj : ∀ (i j : Nat) x, ns[i]? = some x → ns[j]? = some x → i = j
theorem names_range {n : Nat} {f : Nat → Str} (h1 : ∀ j < n, Place (f j)) (h2 : ∀ i j, i < n → j < n → f i = f j → i = j) : NamesOK ((List.range n).map f) := by
  have get : ∀ (i : Nat) x, ((List.range n).map f)[i]? = some x → i < n ∧ f i = x := by
    intro i x h
    rw [List.getElem?_map] at h
    obtain ⟨j, hj, rfl⟩ := Option.map_eq_some_iff.mp h
    obtain ⟨a, b⟩ := List.getElem?_eq_some_iff.mp hj
    rw [List.getElem_range] at b
    subst b
    exact ⟨by simpa using a, rfl⟩
  refine ⟨fun x hx => ?_, fun i j x hi hj => ?_⟩
  · obtain ⟨j, hj, rfl⟩ := List.mem_map.mp hx
    exact h1 j (List.mem_range.mp hj)
  · obtain ⟨a1, a2⟩ := get i x hi
    obtain ⟨b1, b2⟩ := get j x hj
    exact h2 i j a1 b1 (a2.trans b2.symm)

theorem law_names_ok {cell : Int} {many : Nat} (hm : many ≤ 12) : ∃ names : List Str, NamesOK names ∧ names.length = many ∧
    ∀ (k : Nat) (σ : Store) (Q : Post), (∀ d, σ d = none → Q (.ref d) (σ.set d (.list true (names.map .str)))) → specAt P (k + 1) 11 [.int cell, .int many] σ Q := by
  by_cases hodd : cell % 2 = 1
  · generalize hc : (cell / 2 % 26).toNat = c
    have hc26 : c < 26 := by omega
    have hci : cell / 2 % 26 = (c : Int) := by omega
    refine ⟨(List.range many).map fun j => word (List.replicate (j + 1) (97 + c)), names_range (fun j hj => word_place (by simp) (by simp; omega) fun x hx => ?_) (fun i j _ _ h => ?_), by simp, fun k σ Q q => ?_⟩
    · have := List.eq_of_mem_replicate hx; omega
    · have := congrArg List.length (word_inj h)
      simpa using this
    · refine spec_of (xs := f_law_names) rfl rfl ?_
      unfold f_law_names
      refine st_asg rfl (st_yes ?_ ?_)
      · exact ev_cmp (ev_bin rfl rfl rfl) rfl (eqI_t hodd)
      · refine st_retE (wp_compR (n := (many : Int)) rfl (by omega) (fun j => .str (word (List.replicate (j + 1) (97 + c)))) (fun j hj => ?_) fun d hd => ?_)
        · refine ev_bin (x := .str (letter c)) (y := .int (j + 1)) (ev_sub rfl (ev_bin (x := .int (cell / 2)) (ev_bin rfl rfl rfl) rfl rfl) ?_) (ev_bin rfl rfl rfl) ?_
          · show subV σ (.str (Str.ofString "abcdefghijklmnopqrstuvwxyz")) (.int (cell / 2 % 26)) = _
            rw [abc_sub (by omega), hc]
          · exact mul_letter (n := j + 1) (by omega)
        · have := q d hd
          rw [List.map_map] at this
          exact this
  · generalize hc2 : cell / 2 = c2
    generalize hsz : (1 + c2 % 12).toNat = sz
    have hsz1 : 1 ≤ sz ∧ sz ≤ 12 := by omega
    have hszi : 1 + c2 % 12 = (sz : Int) := by omega
    generalize hp : (c2 / 12 % (sz : Int)).toNat = p
    have hp0 : 0 ≤ c2 / 12 % (sz : Int) := Int.emod_nonneg _ (by omega)
    have hp1 : c2 / 12 % (sz : Int) < sz := Int.emod_lt_of_pos _ (by omega)
    have hpi : c2 / 12 % (sz : Int) = (p : Int) := by omega
    have hpsz : p < sz := by omega
    generalize hf : (c2 / 144 % 26).toNat = f
    have hf26 : f < 26 := by omega
    clear hp0 hp1 hp hsz
    have key : ∀ (names : List Str) (nm : Nat → Str), names = (List.range many).map nm → (∀ j, nm j = word (List.replicate p (97 + f) ++ [97 + (((j : Int) + c2 / 3744) % 26).toNat] ++ List.replicate (sz - 1 - p) (97 + f))) → NamesOK names ∧ names.length = many ∧
        ∀ (k : Nat) (σ : Store) (Q : Post), (∀ d, σ d = none → Q (.ref d) (σ.set d (.list true (names.map .str)))) → specAt P (k + 1) 11 [.int cell, .int many] σ Q := by
      intro names nm hnames hnm
      subst hnames
      refine ⟨names_range (fun j hj => ?_) (fun i j hi hj h => ?_), by simp, fun k σ Q q => ?_⟩
      · rw [hnm]
        refine word_place (by simp; omega) (by simp; omega) fun x hx => ?_
        simp only [List.mem_append, List.mem_singleton] at hx
        rcases hx with (hx | hx) | hx
        · have := List.eq_of_mem_replicate hx; omega
        · omega
        · have := List.eq_of_mem_replicate hx; omega
      · rw [hnm, hnm] at h
        have h' := word_inj h
        have := congrArg (fun l : List Nat => l[p]?) h'
        have mid : ∀ (x : Nat) r, (List.replicate p (97 + f) ++ [x] ++ r)[p]? = some x := by
          intro x r
          rw [List.append_assoc, List.getElem?_append_right (by simp)]; simp
        simp only [mid, Option.some.injEq] at this
        omega
      · refine spec_of (xs := f_law_names) rfl rfl ?_
        unfold f_law_names
        refine st_asg rfl (st_no ?_ ?_)
        · exact ev_cmp (ev_bin rfl rfl rfl) rfl (eqI_f hodd)
        refine st_asg (v := .int c2) (ev_bin rfl rfl (by rw [← hc2]; rfl)) ?_
        refine st_asg (v := .int sz) (ev_bin rfl (ev_bin rfl rfl rfl) (by rw [← hszi]; rfl)) ?_
        refine st_asg (v := .int p) (ev_bin (ev_bin rfl rfl rfl) rfl (by
          rw [binMod (by omega), hpi])) ?_
        refine st_asg (v := .str (letter f)) (ev_sub rfl (ev_bin (ev_bin rfl rfl rfl) rfl rfl) (by rw [abc_sub (by omega), hf])) ?_
        refine st_asgE (wp_list rfl fun d hd => ?_)
        refine st_forR (n := (many : Int)) rfl (by omega) (forW_of (fun j ρ' σ' => σ' = σ.set d (.list true ((List.range j).map fun j => .str (nm j))) ∧ ρ' 0 = some (.int c2) ∧ ρ' 2 = some (.str (Str.ofString "abcdefghijklmnopqrstuvwxyz")) ∧ ρ' 3 = some (.int sz) ∧ ρ' 4 = some (.int p) ∧ ρ' 5 = some (.str (letter f)) ∧ ρ' 6 = some (.ref d)) (fun _ _ _ _ _ => trivial) ?_ ?_ ⟨rfl, rfl, rfl, rfl, rfl, rfl, rfl⟩)
        · rintro j v ρ _ K hv ⟨rfl, r0, r2, r3, r4, r5, r6⟩ hn hx
          obtain ⟨rfl, hlt⟩ := rng_get hv
          refine ⟨_, rfl, ?_⟩
          refine st_asg (v := .str (letter (((j : Int) + c2 / 3744) % 26).toNat)) (ev_sub (ev_var r2) (ev_bin (x := .int ((j : Int) + c2 / 3744)) (y := .int 26) (v := .int (((j : Int) + c2 / 3744) % 26)) (ev_bin (x := .int j) (y := .int (c2 / 3744)) rfl (ev_bin (x := .int c2) (y := .int 3744) (ev_var r0) rfl rfl) rfl) rfl rfl) (abc_sub (by omega))) ?_
          refine st_app (p := d) (v := .str (nm j)) r6 set_self ?_ (by simp; omega) (st_nil (hn _ _ ⟨?_, r0, r2, r3, r4, r5, r6⟩))
          · refine ev_bin (x := .str (word (List.replicate p (97 + f) ++ [97 + (((j : Int) + c2 / 3744) % 26).toNat]))) (ev_bin (ev_bin (ev_var r5) (ev_var r4) (mul_letter (by omega))) (y := .str (letter (((j : Int) + c2 / 3744) % 26).toNat)) rfl ?_) (ev_bin (y := .int ((sz - 1 - p : Nat) : Int)) (ev_var r5) (ev_bin (x := .int ((sz : Int) - 1)) (ev_bin (ev_var r3) rfl rfl) (ev_var r4) (congrArg (fun z => some (V.int z)) (show (sz : Int) - 1 - p = ((sz - 1 - p : Nat) : Int) by omega))) (mul_letter (by omega))) ?_
            · exact add_word (b := [_]) (by rw [List.length_replicate]; show p + 1 ≤ 1000; omega)
            · rw [hnm]; exact add_word (by rw [List.length_append, List.length_replicate, List.length_replicate]; show p + 1 + (sz - 1 - p) ≤ 1000; omega)
          · rw [set_set, List.range_succ, List.map_append]; rfl
        · rintro ρ σ' ⟨rfl, r0, r2, r3, r4, r5, r6⟩
          rw [rng_len (by omega)]
          refine st_ret (v := .ref d) r6 ?_
          have := q d hd
          rw [List.map_map] at this
          exact this
    exact ⟨_, key _ _ rfl fun _ => rfl⟩
end Mine

namespace Mine
open PySem
noncomputable def nameAt (names : List Str) (i : Int) : Str := names[i.toNat]?.getD (letter 0)
theorem nameAt_get {names : List Str} {i : Int} (h0 : 0 ≤ i) (h : i < names.length) : names[i.toNat]? = some (nameAt names i) := by
  have : i.toNat < names.length := by omega
  unfold nameAt
  rw [List.getElem?_eq_getElem this]; rfl
theorem nameAt_mem {names : List Str} {i : Int} (h0 : 0 ≤ i) (h : i < names.length) : nameAt names i ∈ names := List.mem_of_getElem? (nameAt_get h0 h)
theorem nameAt_inj {names : List Str} (hN : NamesOK names) {i j : Int} (h0 : 0 ≤ i) (h : i < names.length) (h0' : 0 ≤ j) (h' : j < names.length) (e : nameAt names i = nameAt names j) : i = j := by
  have h1 := nameAt_get h0 h
  have h2 := nameAt_get h0' h'
  rw [e] at h1
  have := hN.inj _ _ _ h1 h2
  omega
theorem sub_name {σ : Store} {b : Addr} {m : Bool} {names : List Str} {i : Int} (hb : σ b = some (.list m (names.map .str))) (h0 : 0 ≤ i) (h : i < names.length) : subV σ (.ref b) (.int i) = some (.str (nameAt names i)) :=
  list_sub hb h0 (by rw [List.getElem?_map, nameAt_get h0 h]; rfl)

noncomputable def rideAt (names : List Str) (cell : Int) : List Ride :=
  let n : Int := names.length
  let one := cell % n
  let other := (one + 1 + cell / 8 % max 1 (n - 1)) % n
  if one = other then [] else [(nameAt names one, nameAt names other, if cell / 64 % 8 = 1 then 1 + cell / 512 % 9999 else 1 + cell / 64 % 40)]
noncomputable def ridesOf (names : List Str) (ns : List Int) (p0 size : Nat) : List Ride := (List.range size).flatMap fun j => rideAt names (cellAt ns (p0 + j))

theorem rideAt_ok {names : List Str} (hN : NamesOK names) (hn : 0 < names.length) {cell : Int} {r : Ride} (h : r ∈ rideAt names cell) : RideOK r ∧ r.1 ∈ names ∧ r.2.1 ∈ names := by
  unfold rideAt at h
  dsimp only at h
  split at h
  · cases h
  · rename_i hne
    simp only [List.mem_singleton] at h
    have hn' : (0 : Int) < names.length := by omega
    have a1 := Int.emod_nonneg cell (b := (names.length : Int)) (by omega)
    have a2 := Int.emod_lt_of_pos cell hn'
    have b1 := Int.emod_nonneg (cell % (names.length : Int) + 1 + cell / 8 % max 1 ((names.length : Int) - 1)) (b := (names.length : Int)) (by omega)
    have b2 := Int.emod_lt_of_pos (cell % (names.length : Int) + 1 + cell / 8 % max 1 ((names.length : Int) - 1)) hn'
    subst h
    refine ⟨⟨hN.place _ (nameAt_mem a1 a2), hN.place _ (nameAt_mem b1 b2), fun e => hne (nameAt_inj hN a1 a2 b1 b2 e), ?_, ?_⟩, nameAt_mem a1 a2, nameAt_mem b1 b2⟩
    · simp only; split <;> omega
    · simp only; split <;> omega
theorem ridesOf_ok {names : List Str} (hN : NamesOK names) (hn : 0 < names.length) {ns : List Int} {p0 size : Nat} : ∀ r ∈ ridesOf names ns p0 size, RideOK r ∧ r.1 ∈ names ∧ r.2.1 ∈ names := fun r h => by
  obtain ⟨j, _, h⟩ := List.mem_flatMap.mp h
  exact rideAt_ok hN hn h
theorem ridesOf_len {names : List Str} {ns : List Int} {p0 size : Nat} : (ridesOf names ns p0 size).length ≤ size := by
  unfold ridesOf
  induction size with
  | zero => simp
  | succ n ih =>
    rw [List.range_succ, List.flatMap_append, List.length_append]
    have : (rideAt names (cellAt ns (p0 + n))).length ≤ 1 := by unfold rideAt; dsimp only; split <;> simp
    simp only [List.flatMap_cons, List.flatMap_nil, List.append_nil]; omega

theorem law_rides_ok {k : Nat} {a b : Addr} {m m' : Bool} {ns : List Int} {names : List Str} {p0 size : Nat} {σ : Store} {Q : Post} (hz : ns.length ≤ 63) (ha : σ a = some (.list m (ns.map .int))) (hb : σ b = some (.list m' (names.map .str))) (hN : NamesOK names) (hn : 0 < names.length ∧ names.length ≤ 1000) (hs : size ≤ 1000)
    (q : ∀ d, σ d = none → Q (.ref d) (σ.set d (.list true ((ridesOf names ns p0 size).map rideV)))) : specAt P (k + 2) 12 [.ref a, .int p0, .ref b, .int size] σ Q := by
  refine spec_of (xs := f_law_rides) rfl rfl ?_
  unfold f_law_rides
  refine st_asgE (wp_list rfl fun d hd => ?_)
  have hda : a ≠ d := by rintro rfl; rw [hd] at ha; cases ha
  have hdb : b ≠ d := by rintro rfl; rw [hd] at hb; cases hb
  have ha' : ∀ o, (σ.set d o) a = some (.list m (ns.map .int)) := fun o => by rw [set_ne hda]; exact ha
  have hb' : ∀ o, (σ.set d o) b = some (.list m' (names.map .str)) := fun o => by rw [set_ne hdb]; exact hb
  refine st_forR (n := (size : Int)) rfl (by omega) (forW_of (fun j ρ' σ' => σ' = σ.set d (.list true ((ridesOf names ns p0 j).map rideV)) ∧ ρ' 0 = some (.ref a) ∧ ρ' 1 = some (.int p0) ∧ ρ' 2 = some (.ref b) ∧ ρ' 4 = some (.ref d)) (fun _ _ _ _ _ => trivial) ?_ ?_ ⟨rfl, rfl, rfl, rfl, rfl⟩)
  · rintro j v ρ _ K hv ⟨rfl, r0, r1, r2, r4⟩ hnx hx
    obtain ⟨rfl, hlt⟩ := rng_get hv
    refine ⟨_, rfl, ?_⟩
    refine st_asgE (wp_call (vs := [.ref a, .int ((p0 + j : Nat) : Int)]) ?_ (cell_ok (ha' _) hz ?_))
    · exact ev_cons (ev_var r0) (ev_cons (ev_bin (x := .int p0) (y := .int j) (ev_var r1) rfl rfl) ev_nil)
    have step : ridesOf names ns p0 (j + 1) = ridesOf names ns p0 j ++ rideAt names (cellAt ns (p0 + j)) := by
      unfold ridesOf; rw [List.range_succ, List.flatMap_append]; simp
    generalize cellAt ns (p0 + j) = cell at *
    have hlen : lenV (σ.set d (.list true ((ridesOf names ns p0 j).map rideV))) (.ref b) = some names.length := len_map (hb' _)
    have hn' : (0 : Int) < names.length := by omega
    have a1 := Int.emod_nonneg cell (b := (names.length : Int)) (by omega)
    have a2 := Int.emod_lt_of_pos cell hn'
    have b1 := Int.emod_nonneg (cell % (names.length : Int) + 1 + cell / 8 % max 1 ((names.length : Int) - 1)) (b := (names.length : Int)) (by omega)
    have b2 := Int.emod_lt_of_pos (cell % (names.length : Int) + 1 + cell / 8 % max 1 ((names.length : Int) - 1)) hn'
    have hlE : ∀ {ρ : Loc}, ρ 2 = some (.ref b) → evP ρ (σ.set d (.list true ((ridesOf names ns p0 j).map rideV))) (.len (.var 2)) = some (.int names.length) := fun h => ev_len (ev_var h) hlen (by omega)
    have bm : ∀ x y : Int, 0 < y → binP .mod (.int x) (.int y) = some (.int (x % y)) := fun x y h => binMod h
    refine st_asg (v := .int (cell % (names.length : Int))) (ev_bin rfl (hlE r2) (bm _ _ hn')) ?_
    refine st_asg (v := .int ((cell % (names.length : Int) + 1 + cell / 8 % max 1 ((names.length : Int) - 1)) % (names.length : Int))) (ev_bin (x := .int (cell % (names.length : Int) + 1 + cell / 8 % max 1 ((names.length : Int) - 1))) (ev_bin (x := .int (cell % (names.length : Int) + 1)) (y := .int (cell / 8 % max 1 ((names.length : Int) - 1))) (ev_bin rfl rfl rfl) (ev_bin (x := .int (cell / 8)) (y := .int (max 1 ((names.length : Int) - 1))) (ev_bin rfl rfl rfl) ?_ (bm _ _ (by omega))) rfl) (hlE r2) (bm _ _ hn')) ?_
    · exact bind2 (f := maxP) (x := .int 1) (y := .int ((names.length : Int) - 1)) rfl (ev_subI (hlE r2) rfl) rfl
    refine st_asg (v := .int (1 + cell / 64 % 40)) rfl ?_
    -- the minutes
    have fin : ∀ ρ' : Loc, ρ' 0 = some (.ref a) → ρ' 1 = some (.int p0) → ρ' 2 = some (.ref b) → ρ' 4 = some (.ref d) → ρ' 7 = some (.int (cell % (names.length : Int))) → ρ' 8 = some (.int ((cell % (names.length : Int) + 1 + cell / 8 % max 1 ((names.length : Int) - 1)) % (names.length : Int))) →
        ρ' 9 = some (.int (if cell / 64 % 8 = 1 then 1 + cell / 512 % 9999 else 1 + cell / 64 % 40)) →
        wpSs (specAt P (k + 1)) [.ite (.cmp .ne (.var 7) (.var 8)) [.expr (.append (.var 4) (.tup [.sub (.var 2) (.var 7), .sub (.var 2) (.var 8), .var 9]))] []] ρ' (σ.set d (.list true ((ridesOf names ns p0 j).map rideV))) K := by
      intro ρ' p0' p1' p2' p4' p7' p8' p9'
      by_cases hE : cell % (names.length : Int) = (cell % (names.length : Int) + 1 + cell / 8 % max 1 ((names.length : Int) - 1)) % (names.length : Int)
      · refine st_no (ev_cmp (ev_var p7') (ev_var p8') (neI_f hE)) (st_nil (hnx _ _ ⟨?_, p0', p1', p2', p4'⟩))
        rw [step]
        have : rideAt names cell = [] := by unfold rideAt; dsimp only; rw [if_pos hE]
        rw [this, List.append_nil]
      · refine st_yes (ev_cmp (ev_var p7') (ev_var p8') (neI_t hE)) (st_app p4' set_self (ev_tup (ev_cons (ev_sub (ev_var p2') (ev_var p7') (sub_name (hb' _) a1 a2)) (ev_cons (ev_sub (ev_var p2') (ev_var p8') (sub_name (hb' _) b1 b2)) (ev_cons (ev_var p9') ev_nil)))) ?_ (st_nil (hnx _ _ ⟨?_, p0', p1', p2', p4'⟩)))
        · have := ridesOf_len (names := names) (ns := ns) (p0 := p0) (size := j)
          simp; omega
        · rw [set_set, step]
          have : rideAt names cell = [(nameAt names (cell % (names.length : Int)), nameAt names ((cell % (names.length : Int) + 1 + cell / 8 % max 1 ((names.length : Int) - 1)) % (names.length : Int)), if cell / 64 % 8 = 1 then 1 + cell / 512 % 9999 else 1 + cell / 64 % 40)] := by unfold rideAt; dsimp only; rw [if_neg hE]
          rw [this, List.map_append]; rfl
    by_cases h8 : cell / 64 % 8 = 1
    · refine st_yes (ev_cmp (x := .int (cell / 64 % 8)) (y := .int 1) rfl rfl (eqI_t h8)) (st_asg (v := .int (1 + cell / 512 % 9999)) rfl ?_)
      refine fin _ r0 r1 r2 r4 rfl rfl (by rw [if_pos h8]; rfl)
    · refine st_no (ev_cmp (x := .int (cell / 64 % 8)) (y := .int 1) rfl rfl (eqI_f h8)) ?_
      refine fin _ r0 r1 r2 r4 rfl rfl (by rw [if_neg h8]; rfl)
  · rintro ρ σ' ⟨rfl, r0, r1, r2, r4⟩
    rw [rng_len (by omega)]
    refine st_ret (v := .ref d) r4 ?_
    have := q d hd
    simpa using this
end Mine

namespace Mine
open PySem
theorem toNat_mod {c n : Int} (h : 0 < n) : (((c % n).toNat : Nat) : Int) = c % n := Int.toNat_of_nonneg (Int.emod_nonneg c (Int.ne_of_gt h))
theorem toNat_mod1 {c n : Int} (h : 0 < n) : (((1 + c % n).toNat : Nat) : Int) = 1 + c % n := Int.toNat_of_nonneg (Int.add_nonneg (by decide) (Int.emod_nonneg c (Int.ne_of_gt h)))
theorem mod_small {c n : Int} (h : 0 < n) (h' : n ≤ 1000) : (c % n).toNat ≤ 1000 := by
  have := Int.emod_lt_of_pos c h
  omega
theorem len1 {α β : Type} {f : α → β} {l : List α} (h : l.length ≤ 1000) : (l.map f).length ≤ 1000000 := by rw [List.length_map]; exact Nat.le_trans h (by decide)
noncomputable def beginOf (cell : Int) : Int := if cell / 64 % 16 = 1 then cell / 1024 % 99000 else cell / 64 % 120
noncomputable def leastOf (cell : Int) : Int := if cell / 64 % 16 = 2 then 1 + cell / 1024 % 99000 else if cell / 64 % 16 = 1 then 1 + cell / 1024 % 999 else 1 + cell / 7680 % 25
noncomputable def tripAt (names : List Str) (cell : Int) : Trip := (nameAt names (cell % (names.length : Int)), beginOf cell, nameAt names (cell / 13 % (names.length : Int)), beginOf cell + leastOf cell)
noncomputable def tripsOf (names : List Str) (ns : List Int) (p0 size : Nat) : List Trip := (List.range size).map fun j => tripAt names (cellAt ns (p0 + j))

theorem tripAt_ok {names : List Str} (hN : NamesOK names) (hn : 0 < names.length) {cell : Int} : TripOK (tripAt names cell) ∧ (tripAt names cell).1 ∈ names ∧ (tripAt names cell).2.2.1 ∈ names := by
  have hn' : (0 : Int) < names.length := by omega
  have a1 := Int.emod_nonneg cell (b := (names.length : Int)) (by omega)
  have a2 := Int.emod_lt_of_pos cell hn'
  have b1 := Int.emod_nonneg (cell / 13) (b := (names.length : Int)) (by omega)
  have b2 := Int.emod_lt_of_pos (cell / 13) hn'
  refine ⟨⟨hN.place _ (nameAt_mem a1 a2), hN.place _ (nameAt_mem b1 b2), ?_, ?_, ?_⟩, nameAt_mem a1 a2, nameAt_mem b1 b2⟩
  · simp only [tripAt, beginOf]; split <;> omega
  · simp only [tripAt, leastOf]; split <;> (try split) <;> omega
  · simp only [tripAt, leastOf, beginOf]; split <;> (try split) <;> omega
theorem tripsOf_ok {names : List Str} (hN : NamesOK names) (hn : 0 < names.length) {ns : List Int} {p0 size : Nat} : ∀ t ∈ tripsOf names ns p0 size, TripOK t ∧ t.1 ∈ names ∧ t.2.2.1 ∈ names := fun t h => by
  obtain ⟨j, _, rfl⟩ := List.mem_map.mp h
  exact tripAt_ok hN hn

theorem law_trips_ok {k : Nat} {a b : Addr} {m m' : Bool} {ns : List Int} {names : List Str} {p0 size : Nat} {σ : Store} {Q : Post} (hz : ns.length ≤ 63) (ha : σ a = some (.list m (ns.map .int))) (hb : σ b = some (.list m' (names.map .str))) (hn : 0 < names.length ∧ names.length ≤ 1000) (hs : size ≤ 1000)
    (q : ∀ d, σ d = none → Q (.ref d) (σ.set d (.list true ((tripsOf names ns p0 size).map tripV)))) : specAt P (k + 2) 13 [.ref a, .int p0, .ref b, .int size] σ Q := by
  refine spec_of (xs := f_law_trips) rfl rfl ?_
  unfold f_law_trips
  refine st_asgE (wp_list rfl fun d hd => ?_)
  have hda : a ≠ d := by rintro rfl; rw [hd] at ha; cases ha
  have hdb : b ≠ d := by rintro rfl; rw [hd] at hb; cases hb
  have ha' : ∀ o, (σ.set d o) a = some (.list m (ns.map .int)) := fun o => by rw [set_ne hda]; exact ha
  have hb' : ∀ o, (σ.set d o) b = some (.list m' (names.map .str)) := fun o => by rw [set_ne hdb]; exact hb
  refine st_forR (n := (size : Int)) rfl (by omega) (forW_of (fun j ρ' σ' => σ' = σ.set d (.list true ((tripsOf names ns p0 j).map tripV)) ∧ ρ' 0 = some (.ref a) ∧ ρ' 1 = some (.int p0) ∧ ρ' 2 = some (.ref b) ∧ ρ' 4 = some (.ref d)) (fun _ _ _ _ _ => trivial) ?_ ?_ ⟨rfl, rfl, rfl, rfl, rfl⟩)
  · rintro j v ρ _ K hv ⟨rfl, r0, r1, r2, r4⟩ hnx hx
    obtain ⟨rfl, hlt⟩ := rng_get hv
    refine ⟨_, rfl, ?_⟩
    refine st_asgE (wp_call (vs := [.ref a, .int ((p0 + j : Nat) : Int)]) ?_ (cell_ok (ha' _) hz ?_))
    · exact ev_cons (ev_var r0) (ev_cons (ev_bin (x := .int p0) (y := .int j) (ev_var r1) rfl rfl) ev_nil)
    have step : tripsOf names ns p0 (j + 1) = tripsOf names ns p0 j ++ [tripAt names (cellAt ns (p0 + j))] := by
      unfold tripsOf; rw [List.range_succ, List.map_append]; rfl
    generalize cellAt ns (p0 + j) = cell at *
    have hlen : lenV (σ.set d (.list true ((tripsOf names ns p0 j).map tripV))) (.ref b) = some names.length := len_map (hb' _)
    have hn' : (0 : Int) < names.length := by omega
    have a1 := Int.emod_nonneg cell (b := (names.length : Int)) (by omega)
    have a2 := Int.emod_lt_of_pos cell hn'
    have b1 := Int.emod_nonneg (cell / 13) (b := (names.length : Int)) (by omega)
    have b2 := Int.emod_lt_of_pos (cell / 13) hn'
    have hlE : ∀ {ρ : Loc}, ρ 2 = some (.ref b) → evP ρ (σ.set d (.list true ((tripsOf names ns p0 j).map tripV))) (.len (.var 2)) = some (.int names.length) := fun h => ev_len (ev_var h) hlen (by omega)
    have bm : ∀ x y : Int, 0 < y → binP .mod (.int x) (.int y) = some (.int (x % y)) := fun x y h => binMod h
    refine st_asg (v := .str (nameAt names (cell % (names.length : Int)))) (ev_sub (ev_var r2) (ev_bin rfl (hlE r2) (bm _ _ hn')) (sub_name (hb' _) a1 a2)) ?_
    refine st_asg (v := .str (nameAt names (cell / 13 % (names.length : Int)))) (ev_sub (ev_var r2) (ev_bin (x := .int (cell / 13)) rfl (hlE r2) (bm _ _ hn')) (sub_name (hb' _) b1 b2)) ?_
    refine st_asg (v := .int (cell / 64 % 120)) rfl (st_asg (v := .int (1 + cell / 7680 % 25)) rfl ?_)
    have fin : ∀ ρ' : Loc, ρ' 0 = some (.ref a) → ρ' 1 = some (.int p0) → ρ' 2 = some (.ref b) → ρ' 4 = some (.ref d) → ρ' 7 = some (.str (nameAt names (cell % (names.length : Int)))) → ρ' 8 = some (.str (nameAt names (cell / 13 % (names.length : Int)))) → ρ' 9 = some (.int (beginOf cell)) → ρ' 10 = some (.int (leastOf cell)) →
        wpSs (specAt P (k + 1)) [.expr (.append (.var 4) (.tup [.var 7, .var 9, .var 8, .bin .add (.var 9) (.var 10)]))] ρ' (σ.set d (.list true ((tripsOf names ns p0 j).map tripV))) K := by
      intro ρ' p0' p1' p2' p4' p7' p8' p9' p10'
      refine st_app p4' set_self (ev_tup (ev_cons (ev_var p7') (ev_cons (ev_var p9') (ev_cons (ev_var p8') (ev_cons (ev_bin (ev_var p9') (ev_var p10') rfl) ev_nil))))) ?_ (st_nil (hnx _ _ ⟨?_, p0', p1', p2', p4'⟩))
      · simp [tripsOf]; omega
      · rw [set_set, step, List.map_append]; rfl
    by_cases h1 : cell / 64 % 16 = 1
    · refine st_yes (ev_cmp (x := .int (cell / 64 % 16)) (y := .int 1) rfl rfl (eqI_t h1)) (st_asg (v := .int (cell / 1024 % 99000)) rfl (st_asg (v := .int (1 + cell / 1024 % 999)) rfl ?_))
      refine st_no (ev_cmp (x := .int (cell / 64 % 16)) (y := .int 2) rfl rfl (eqI_f (by rw [h1]; decide))) ?_
      exact fin _ r0 r1 r2 r4 rfl rfl (congrArg (fun z => some (V.int z)) (if_pos h1).symm) (congrArg (fun z => some (V.int z)) (by unfold leastOf; rw [if_neg (by rw [h1]; decide), if_pos h1]))
    · refine st_no (ev_cmp (x := .int (cell / 64 % 16)) (y := .int 1) rfl rfl (eqI_f h1)) ?_
      by_cases h2 : cell / 64 % 16 = 2
      · refine st_yes (ev_cmp (x := .int (cell / 64 % 16)) (y := .int 2) rfl rfl (eqI_t h2)) (st_asg (v := .int (1 + cell / 1024 % 99000)) rfl ?_)
        exact fin _ r0 r1 r2 r4 rfl rfl (congrArg (fun z => some (V.int z)) (if_neg h1).symm) (congrArg (fun z => some (V.int z)) (if_pos h2).symm)
      · refine st_no (ev_cmp (x := .int (cell / 64 % 16)) (y := .int 2) rfl rfl (eqI_f h2)) ?_
        exact fin _ r0 r1 r2 r4 rfl rfl (congrArg (fun z => some (V.int z)) (if_neg h1).symm) (congrArg (fun z => some (V.int z)) (by unfold leastOf; rw [if_neg h2, if_neg h1]))
  · rintro ρ σ' ⟨rfl, r0, r1, r2, r4⟩
    rw [rng_len (by omega)]
    refine st_ret (v := .ref d) r4 ?_
    have := q d hd
    simpa using this

/-- what is built of a script -/
structure Built (names : List Str) (rs : List Ride) (ts : List Trip) : Prop where
  nm : NamesOK names
  cnt : 0 < names.length ∧ names.length ≤ 12
  rides : ∀ r ∈ rs, RideOK r ∧ r.1 ∈ names ∧ r.2.1 ∈ names
  trips : ∀ t ∈ ts, TripOK t ∧ t.1 ∈ names ∧ t.2.2.1 ∈ names
  fewR : rs.length ≤ 11
  fewT : ts.length ≤ 10

theorem law_built_ok {ns : List Int} (hz : ns.length ≤ 63) : ∃ names rs ts, Built names rs ts ∧
    ∀ (k : Nat) (σ : Store) (a : Addr) (m : Bool) (Q : Post), σ a = some (.list m (ns.map .int)) →
      (∀ dn dr dt σ', Ext σ σ' → σ' dn = some (.list true (names.map .str)) → σ' dr = some (.list true (rs.map rideV)) → σ' dt = some (.list true (ts.map tripV)) → Q (.tup [.ref dn, .ref dr, .ref dt]) σ') → specAt P (k + 3) 15 [.ref a] σ Q := by
  generalize hf : cellAt ns 0 = first
  generalize hse : cellAt ns 2 = second
  have hm1 : (1 + first % 6).toNat ≤ 12 := by omega
  obtain ⟨names, hN, hNl, hNs⟩ := law_names_ok (cell := cellAt ns 1) hm1
  have hn0 : 0 < names.length := by rw [hNl]; omega
  have hn6 : 0 < names.length ∧ names.length ≤ 1000 := ⟨hn0, by rw [hNl]; exact Nat.le_trans hm1 (by decide)⟩
  -- the first part of the way
  have start : ∀ (k : Nat) (σ : Store) (a : Addr) (m : Bool) (Q : Post), σ a = some (.list m (ns.map .int)) →
      (∀ dn dr dt σ' ρ', Ext σ σ' → σ' dn = some (.list true (names.map .str)) → σ' dr = some (.list true ((ridesOf names ns 4 (first / 6 % 8).toNat).map rideV)) → σ' dt = some (.list true ((tripsOf names ns 12 (second % 9).toNat).map tripV)) →
        ρ' 0 = some (.ref a) → ρ' 1 = some (.int first) → ρ' 2 = some (.int second) → ρ' 3 = some (.ref dn) → ρ' 4 = some (.ref dr) → ρ' 5 = some (.ref dt) →
        wpSs (specAt P (k + 2)) (f_law_built.drop 5) ρ' σ' fun fl _ σ' => Q (match fl with | .ret v => v | .next => .none) σ') → specAt P (k + 3) 15 [.ref a] σ Q := by
    intro k σ a m Q ha q
    refine spec_of (xs := f_law_built) rfl rfl ?_
    unfold f_law_built
    refine st_asgE (wp_call (vs := [.ref a, .int ((0 : Nat) : Int)]) rfl (cell_ok ha hz ?_))
    refine st_asgE (wp_call (vs := [.ref a, .int ((2 : Nat) : Int)]) rfl (cell_ok ha hz ?_))
    rw [hf, hse]
    refine st_asgE ?_
    dsimp only [we_var, we_cst, we_gl, we_bin, we_cmp, we_cmp2, we_and, we_or, we_not, we_sub, we_slc, we_rev, we_list, we_tup, we_dict0, we_dict1, we_comp, we_compIf, we_call, we_len, we_listOf, we_dictOf, we_tupleOf, we_isi, we_max2, we_minOf, we_sorted, we_rng1, we_rng2, we_append, we_insert0, we_pop, we_get1, we_get2, we_nil, we_cons]
    refine ⟨_, rfl, cell_ok (j := 1) ha hz ⟨_, rfl, ⟨by decide, ?_⟩⟩⟩
    refine wb_add ?_
    rw [← toNat_mod1 (c := first) (n := 6) (by decide)]
    refine hNs _ _ _ fun dn hdn => ?_
    have e1 : Ext σ (σ.set dn (.list true (names.map .str))) := Ext.new hdn
    refine st_asgE (wp_call (vs := [.ref a, .int ((4 : Nat) : Int), .ref dn, .int ((first / 6 % 8).toNat : Nat)]) (by rw [toNat_mod (by decide)]; rfl) (law_rides_ok hz (e1 _ _ ha) set_self hN hn6 (mod_small (by decide) (by decide)) fun dr hdr => ?_))
    have e2 := e1.trans (Ext.new (o := .list true ((ridesOf names ns 4 (first / 6 % 8).toNat).map rideV)) hdr)
    have n2 := Ext.new (o := .list true ((ridesOf names ns 4 (first / 6 % 8).toNat).map rideV)) hdr _ _ set_self
    refine st_asgE (wp_call (vs := [.ref a, .int ((12 : Nat) : Int), .ref dn, .int ((second % 9).toNat : Nat)]) (by rw [toNat_mod (by decide)]; rfl) (law_trips_ok hz (e2 _ _ ha) n2 hn6 (mod_small (by decide) (by decide)) fun dt hdt => ?_))
    have e3 := Ext.new (o := .list true ((tripsOf names ns 12 (second % 9).toNat).map tripV)) hdt
    exact q dn dr dt _ _ (e2.trans e3) (e3 _ _ n2) (e3 _ _ set_self) set_self rfl rfl rfl rfl rfl rfl
  have hR := ridesOf_ok hN hn0 (ns := ns) (p0 := 4) (size := (first / 6 % 8).toNat)
  have hRl := ridesOf_len (names := names) (ns := ns) (p0 := 4) (size := (first / 6 % 8).toNat)
  have hT := tripsOf_ok hN hn0 (ns := ns) (p0 := 12) (size := (second % 9).toNat)
  have hTl : (tripsOf names ns 12 (second % 9).toNat).length ≤ 8 := by simp [tripsOf]; omega
  by_cases h2 : second / 9 % 8 = 2
  · -- twelve places in a row
    have h4 : ¬ second / 9 % 4 = 1 := by omega
    obtain ⟨names', hN', hNl', hNs'⟩ := law_names_ok (cell := cellAt ns 1) (many := 12) (by omega)
    generalize hstep : (if second / 72 % 2 = 0 then 1 + first % 20 else 9990 + first % 9) = step
    have hstep1 : 1 ≤ step ∧ step ≤ 9998 := by rw [← hstep]; split <;> omega
    have hcnt : (((2 + first % 10).toNat : Nat) : Int) = 2 + first % 10 := by omega
    refine ⟨names', (List.range (2 + first % 10).toNat).map (fun (j : Nat) => (nameAt names' j, nameAt names' ((j : Int) + 1), step + (j : Int) % 2)), tripsOf names' ns 12 (second % 5).toNat, ⟨hN', by omega, fun r hr => ?_, tripsOf_ok hN' (by omega), by simp; omega, by simp [tripsOf]; omega⟩, ?_⟩
    · obtain ⟨j, hj, rfl⟩ := List.mem_map.mp hr
      have hj' := List.mem_range.mp hj
      have m1 := nameAt_mem (names := names') (i := (j : Int)) (by omega) (by omega)
      have m2 := nameAt_mem (names := names') (i := (j : Int) + 1) (by omega) (by omega)
      refine ⟨⟨hN'.place _ m1, hN'.place _ m2, fun e => ?_, ?_, ?_⟩, m1, m2⟩
      · have := nameAt_inj hN' (by omega) (by omega) (by omega) (by omega) e; omega
      · simp only; omega
      · simp only; omega
    · intro k σ a m Q ha q
      refine start k σ a m Q ha fun dn dr dt σ₁ ρ e₁ _ _ _ r0 r1 r2 r3 r4 r5 => ?_
      simp only [f_law_built, List.drop_succ_cons, List.drop_zero]
      refine st_no (ev_cmp (x := .int (second / 9 % 4)) (y := .int 1) (ev_bin (ev_bin (ev_var r2) rfl rfl) rfl rfl) rfl (eqI_f h4)) ?_
      refine st_yes (ev_cmp (x := .int (second / 9 % 8)) (y := .int 2) (ev_bin (ev_bin (ev_var r2) rfl rfl) rfl rfl) rfl (eqI_t h2)) ?_
      refine st_asgE ?_
      dsimp only [we_var, we_cst, we_gl, we_bin, we_cmp, we_cmp2, we_and, we_or, we_not, we_sub, we_slc, we_rev, we_list, we_tup, we_dict0, we_dict1, we_comp, we_compIf, we_call, we_len, we_listOf, we_dictOf, we_tupleOf, we_isi, we_max2, we_minOf, we_sorted, we_rng1, we_rng2, we_append, we_insert0, we_pop, we_get1, we_get2, we_nil, we_cons]
      refine ⟨_, r0, cell_ok (j := 1) (e₁ _ _ ha) hz (hNs' _ _ _ fun dn' hdn => ?_)⟩
      have e₂ := Ext.new (o := .list true (names'.map .str)) hdn
      refine st_asgE ?_
      have q1 : (ρ.set 3 (.ref dn')) 1 = some (.int first) := r1
      have q2 : (ρ.set 3 (.ref dn')) 2 = some (.int second) := r2
      refine ⟨_, q1, ⟨by decide, _, q1, ⟨by decide, fun dl hdl => ⟨_, q2, ⟨by decide, by decide, ⟨by decide, .int step, ?_, ?_⟩⟩⟩⟩⟩⟩
      · refine list_sub set_self (by omega) ?_
        rw [← hstep]
        by_cases h0 : second / 72 % 2 = 0
        · rw [h0, if_pos rfl]; rfl
        · have : second / 72 % 2 = 1 := by omega
          rw [this]; rfl
      have e₃ := Ext.new (o := .list true [.int (1 + first % 20), .int (9990 + first % 9)]) hdl
      have hn3 : ((σ₁.set dn' (.list true (names'.map .str))).set dl (.list true [.int (1 + first % 20), .int (9990 + first % 9)])) dn' = some (.list true (names'.map .str)) := e₃ _ _ set_self
      refine st_asgE (wp_compR (n := 2 + first % 10) (ev_rng1 (ev_bin (y := .int (first % 10)) rfl (ev_bin (ev_var r1) rfl rfl) rfl)) (by omega) (fun j => rideV (nameAt names' j, nameAt names' ((j : Int) + 1), step + (j : Int) % 2)) (fun j hj => ?_) fun dr' hdr => ?_)
      · exact ev_tup (ev_cons (ev_sub (y := .int j) (ev_var rfl) rfl (sub_name hn3 (by omega) (by omega))) (ev_cons (ev_sub (y := .int ((j : Int) + 1)) (ev_var rfl) rfl (sub_name hn3 (by omega) (by omega))) (ev_cons (ev_bin (x := .int step) (y := .int ((j : Int) % 2)) (ev_var rfl) rfl rfl) ev_nil)))
      have e₄ := Ext.new (o := .list true ((List.range (2 + first % 10).toNat).map fun (j : Nat) => rideV (nameAt names' j, nameAt names' ((j : Int) + 1), step + (j : Int) % 2))) hdr
      have ea : Ext σ _ := ((e₁.trans e₂).trans e₃).trans e₄
      refine st_asgE (wp_call (vs := [.ref a, .int ((12 : Nat) : Int), .ref dn', .int ((second % 5).toNat : Nat)]) ?_ (law_trips_ok hz (ea _ _ ha) (e₄ _ _ hn3) (by omega) (mod_small (by decide) (by decide)) fun dt' hdt => ?_))
      · rw [toNat_mod (by decide)]
        exact ev_cons (ev_var r0) (ev_cons rfl (ev_cons (ev_var rfl) (ev_cons (ev_bin (ev_var r2) rfl rfl) ev_nil)))
      have e₅ := Ext.new (o := .list true ((tripsOf names' ns 12 (second % 5).toNat).map tripV)) hdt
      refine st_ret (v := .tup [.ref dn', .ref dr', .ref dt']) rfl (q dn' dr' dt' _ (ea.trans e₅) (e₅ _ _ (e₄ _ _ hn3)) ?_ set_self)
      have := e₅ _ _ (set_self (σ := ((σ₁.set dn' (.list true (names'.map .str))).set dl (.list true [.int (1 + first % 20), .int (9990 + first % 9)]))) (p := dr') (o := .list true ((List.range (2 + first % 10).toNat).map fun (j : Nat) => rideV (nameAt names' j, nameAt names' ((j : Int) + 1), step + (j : Int) % 2))))
      rw [List.map_map]
      exact this
  · by_cases h4 : second / 9 % 4 = 1
    · refine ⟨names, ridesOf names ns 4 (first / 6 % 8).toNat, tripsOf names ns 12 (second % 9).toNat ++ (tripsOf names ns 12 (second % 9).toNat).take 2, ⟨hN, by omega, hR, fun t ht => ?_, by omega, by simp only [List.length_append, List.length_take]; omega⟩, ?_⟩
      · rcases List.mem_append.mp ht with ht | ht
        · exact hT t ht
        · exact hT t (List.mem_of_mem_take ht)
      · intro k σ a m Q ha q
        refine start k σ a m Q ha fun dn dr dt σ₁ ρ e₁ hdn hdr hdt r0 r1 r2 r3 r4 r5 => ?_
        simp only [f_law_built, List.drop_succ_cons, List.drop_zero]
        refine st_yes (ev_cmp (x := .int (second / 9 % 4)) (y := .int 1) (ev_bin (ev_bin (ev_var r2) rfl rfl) rfl rfl) rfl (eqI_t h4)) ?_
        refine st_asgE ?_
        refine ⟨_, r5, _, r5, dt, true, _, _, _, rfl, hdt, by simp; omega, rfl, rfl, fun dx hdx => ?_⟩
        have e₂ : Ext σ₁ _ := Ext.new (o := .list true ((((tripsOf names ns 12 (second % 9).toNat).map tripV).drop 0).take (min 2 ((tripsOf names ns 12 (second % 9).toNat).map tripV).length - 0))) hdx
        refine ⟨_, _, e₂ _ _ hdt, set_self, by simp; omega, fun dy hdy => ?_⟩
        have e₃ := Ext.new (o := .list true ((tripsOf names ns 12 (second % 9).toNat).map tripV ++ (((tripsOf names ns 12 (second % 9).toNat).map tripV).drop 0).take (min 2 ((tripsOf names ns 12 (second % 9).toNat).map tripV).length - 0))) hdy
        refine st_no (ev_cmp (x := .int (second / 9 % 8)) (y := .int 2) (ev_bin (ev_bin (ev_var r2) rfl rfl) rfl rfl) rfl (eqI_f h2)) ?_
        refine st_ret (v := .tup [.ref dn, .ref dr, .ref dy]) (ev_tup (ev_cons (ev_var r3) (ev_cons (ev_var r4) (ev_cons (ev_var rfl) ev_nil)))) (q dn dr dy _ ((e₁.trans e₂).trans e₃) (e₃ _ _ (e₂ _ _ hdn)) (e₃ _ _ (e₂ _ _ hdr)) ?_)
        rw [set_self]
        have cut : ∀ l : List V, (l.drop 0).take (min 2 l.length - 0) = l.take 2 := fun l => by
          rw [List.drop_zero, Nat.sub_zero]
          rcases Nat.le_total 2 l.length with h | h
          · rw [Nat.min_eq_left h]
          · rw [Nat.min_eq_right h, List.take_length, List.take_of_length_le h]
        have cut' : ∀ l : List V, (l.drop 0).take ((if (0 : Int) ≤ 2 then min (Int.toNat 2) l.length else ((l.length : Int) + 2).toNat) - 0) = l.take 2 := fun l => by
          rw [if_pos (by decide)]; exact cut l
        rw [cut', List.map_append, List.map_take]
    · refine ⟨names, ridesOf names ns 4 (first / 6 % 8).toNat, tripsOf names ns 12 (second % 9).toNat, ⟨hN, by omega, hR, hT, by omega, by omega⟩, ?_⟩
      intro k σ a m Q ha q
      refine start k σ a m Q ha fun dn dr dt σ₁ ρ e₁ hdn hdr hdt r0 r1 r2 r3 r4 r5 => ?_
      simp only [f_law_built, List.drop_succ_cons, List.drop_zero]
      refine st_no (ev_cmp (x := .int (second / 9 % 4)) (y := .int 1) (ev_bin (ev_bin (ev_var r2) rfl rfl) rfl rfl) rfl (eqI_f h4)) ?_
      refine st_no (ev_cmp (x := .int (second / 9 % 8)) (y := .int 2) (ev_bin (ev_bin (ev_var r2) rfl rfl) rfl rfl) rfl (eqI_f h2)) ?_
      exact st_ret (v := .tup [.ref dn, .ref dr, .ref dt]) (ev_tup (ev_cons (ev_var r3) (ev_cons (ev_var r4) (ev_cons (ev_var r5) ev_nil)))) (q dn dr dt σ₁ e₁ hdn hdr hdt)
end Mine

namespace Mine
open PySem
theorem relax_none {es : Es} {r : Ride} (h : relax es r = none) {d : Int} (hd : getE es r.1 = some d) : ∃ d', getE es r.2.1 = some d' ∧ d' ≤ d + r.2.2 := by
  unfold relax at h
  rw [hd] at h
  simp only at h
  split at h
  · cases h
  · rename_i d' hd'
    split at h
    · cases h
    · exact ⟨d', hd', by omega⟩
theorem Least.tight {roads : List Ride} {place : Str} {es : Es} (L : Least roads place es) {x : Str} {v : Int} (h : getE es x = some v) (hx : x ≠ place) : ∃ r ∈ roads, r.2.1 = x ∧ ∃ d, getE es r.1 = some d ∧ d + r.2.2 = v := by
  obtain ⟨r, hr, h1, d, h2, h3⟩ := L.inv.back x v h hx
  obtain ⟨d', h4, h5⟩ := relax_none (L.done r hr) h2
  rw [h1, h] at h4
  cases h4
  exact ⟨r, hr, h1, d, h2, by omega⟩

theorem place_strOk {x : Str} (h : Place x) : PyData.strOk x = true := by
  unfold PyData.strOk
  rw [Array.all_eq_true']
  intro c hc
  have := h.2.2 c (Array.mem_toList_iff.mpr hc)
  simp; omega
theorem datL_cons {f : V → Option PyData} {v : V} {r : List V} {d : PyData} {ds : List PyData} (h : f v = some d) (h' : datL f r = some ds) : datL f (v :: r) = some (d :: ds) := by
  show (match f v, datL f r with | some d, some ds => some (d :: ds) | _, _ => Option.none) = _
  rw [h, h']
theorem dat_str {σ : Store} {n : Nat} {x : Str} (h : Place x) : dat σ (n + 1) (.str x) = some (.str x) := if_pos (place_strOk h)
theorem dat_tup {σ : Store} {n : Nat} {l : List V} {ds : List PyData} (h : datL (dat σ n) l = some ds) : dat σ (n + 1) (.tup l) = some (.tuple ds) := congrArg (Option.map PyData.tuple) h
noncomputable def rideD (r : Ride) : PyData := .tuple [.str r.1, .str r.2.1, .int r.2.2]
theorem dat_ride {σ : Store} {n : Nat} {r : Ride} (h1 : Place r.1) (h2 : Place r.2.1) : dat σ (n + 2) (rideV r) = some (rideD r) :=
  dat_tup (datL_cons (dat_str h1) (datL_cons (dat_str h2) (datL_cons rfl rfl)))
noncomputable def tripD (t : Trip) : PyData := .tuple [.str t.1, .int t.2.1, .str t.2.2.1, .int t.2.2.2]
theorem dat_trip {σ : Store} {n : Nat} {t : Trip} (h1 : Place t.1) (h2 : Place t.2.2.1) : dat σ (n + 2) (tripV t) = some (tripD t) :=
  dat_tup (datL_cons (dat_str h1) (datL_cons rfl (datL_cons (dat_str h2) (datL_cons rfl rfl))))
theorem datL_map {α : Type} {f : V → Option PyData} {g : α → V} {h : α → PyData} : ∀ {l : List α}, (∀ x ∈ l, f (g x) = some (h x)) → datL f (l.map g) = some (l.map h)
  | [], _ => rfl
  | a :: l, e => datL_cons (e a (.head _)) (datL_map (l := l) fun x hx => e x (List.mem_cons_of_mem _ hx))
theorem dat_list {σ : Store} {a : Addr} {m : Bool} {l : List V} {n : Nat} {ds : List PyData} (h : σ a = some (.list m l)) (hd : datL (dat σ n) l = some ds) : dat σ (n + 1) (.ref a) = some (.list ds) := by
  show (match σ a with | some (.list _ l) => (datL (dat σ n) l).map PyData.list | _ => Option.none) = _
  rw [h]
  exact congrArg (Option.map PyData.list) hd
theorem eqvAll_self : ∀ {l : List PyData}, (∀ d ∈ l, PyData.eqv d d = true) → PyData.eqvAll l l = true
  | [], _ => rfl
  | d :: l, h => by
    show (PyData.eqv d d && PyData.eqvAll l l) = true
    rw [h d (.head _), eqvAll_self fun x hx => h x (List.mem_cons_of_mem _ hx)]; rfl
theorem eqv_str (x : Str) : PyData.eqv (.str x) (.str x) = true := (beq_self_eq_true x : (x == x) = true)
theorem eqv_int (x : Int) : PyData.eqv (.int x) (.int x) = true := (beq_self_eq_true x : (x == x) = true)
theorem all_cons {α : Type} {p : α → Prop} {a : α} {l : List α} (h : p a) (h' : ∀ x ∈ l, p x) : ∀ x ∈ a :: l, p x := fun x hx => by
  cases hx with
  | head => exact h
  | tail _ hx => exact h' x hx
theorem all_nil {α : Type} {p : α → Prop} : ∀ x ∈ ([] : List α), p x := fun _ h => nomatch h
theorem eqv_tup {l : List PyData} (h : ∀ d ∈ l, PyData.eqv d d = true) : PyData.eqv (.tuple l) (.tuple l) = true := eqvAll_self h
theorem eqv_list {l : List PyData} (h : ∀ d ∈ l, PyData.eqv d d = true) : PyData.eqv (.list l) (.list l) = true := eqvAll_self h
theorem all_map {α β : Type} {p : β → Prop} {f : α → β} {l : List α} (h : ∀ x, p (f x)) : ∀ x ∈ l.map f, p x := fun x hx => by
  obtain ⟨y, _, rfl⟩ := List.mem_map.mp hx; exact h y
theorem eqv_ride (r : Ride) : PyData.eqv (rideD r) (rideD r) = true := eqv_tup (all_cons (eqv_str _) (all_cons (eqv_str _) (all_cons (eqv_int _) all_nil)))
theorem eqv_trip (t : Trip) : PyData.eqv (tripD t) (tripD t) = true := eqv_tup (all_cons (eqv_str _) (all_cons (eqv_int _) (all_cons (eqv_str _) (all_cons (eqv_int _) all_nil))))
theorem eqv_rides (rs : List Ride) : PyData.eqv (.list (rs.map rideD)) (.list (rs.map rideD)) = true := eqv_list (all_map eqv_ride)
theorem eqv_trips (ts : List Trip) : PyData.eqv (.list (ts.map tripD)) (.list (ts.map tripD)) = true := eqv_list (all_map eqv_trip)
theorem eqV_lists {σ : Store} {a d : Addr} {m m' : Bool} {l l' : List V} {x y : PyData} (ha : σ a = some (.list m l)) (hd : σ d = some (.list m' l')) (hx : dat σ 4 (.ref a) = some x) (hy : dat σ 4 (.ref d) = some y) : eqV σ (.ref a) (.ref d) = some (PyData.eqv x y) := by
  show (match σ a, σ d with | some (.ds _ es), some (.ds _ es') => eqD es es' | _, _ => eqT σ (.ref a) (.ref d)) = _
  rw [ha, hd]
  show (match dat σ 4 (.ref a), dat σ 4 (.ref d) with | some d, some e => some (PyData.eqv d e) | _, _ => Option.none) = _
  rw [hx, hy]
noncomputable def tightAt (es : Es) (x : Str) (v : Int) (r : Ride) : Bool := decide (r.2.1 = x) && ((getE es r.1).isSome && (match getE es r.1 with | some d => decide (d + r.2.2 = v) | none => false))
theorem tightAt_iff {es : Es} {x : Str} {v : Int} {r : Ride} : tightAt es x v r = true ↔ r.2.1 = x ∧ ∃ d, getE es r.1 = some d ∧ d + r.2.2 = v := by
  unfold tightAt
  cases getE es r.1 with
  | none => exact ⟨fun h => by { rw [Bool.and_eq_true] at h; cases h.2 }, fun h => by { obtain ⟨_, _, h, _⟩ := h; cases h }⟩
  | some d =>
    rw [Bool.and_eq_true, decide_eq_true_eq]
    exact ⟨fun h => ⟨h.1, d, rfl, of_decide_eq_true h.2⟩, fun ⟨h1, d', h2, h3⟩ => ⟨h1, by cases h2; exact decide_eq_true h3⟩⟩

theorem roads_places {names : List Str} {rs : List Ride} {ts : List Trip} (hR : ∀ r ∈ rs, RideOK r ∧ r.1 ∈ names ∧ r.2.1 ∈ names) (hT : ∀ t ∈ ts, TripOK t ∧ t.1 ∈ names ∧ t.2.2.1 ∈ names) : ∀ r ∈ roadsOf rs ts, Place r.1 ∧ Place r.2.1 := by
  intro r h
  rcases List.mem_append.mp h with h | h
  · exact ⟨(hR r h).1.1, (hR r h).1.2.1⟩
  · obtain ⟨t, ht, h⟩ := List.mem_flatMap.mp h
    unfold tripRoad at h
    split at h
    · cases h
    · cases List.mem_singleton.mp h; exact ⟨(hT t ht).1.1, (hT t ht).1.2.1⟩
/-- both copies of rides and trips read alike -/
theorem handed_eq {σ : Store} {rs : List Ride} {ts : List Trip} {a b c d e f : Addr} {m₁ m₂ m₃ m₄ m₅ m₆ : Bool} (hR : ∀ r ∈ rs, RideOK r) (hT : ∀ t ∈ ts, TripOK t)
    (ha : σ a = some (.list m₁ [.ref b, .ref c])) (hb : σ b = some (.list m₂ (rs.map rideV))) (hc : σ c = some (.list m₃ (ts.map tripV))) (hd : σ d = some (.list m₄ [.ref e, .ref f])) (he : σ e = some (.list m₅ (rs.map rideV))) (hf : σ f = some (.list m₆ (ts.map tripV))) : eqV σ (.ref a) (.ref d) = some true := by
  have dr : ∀ {x : Addr} {m : Bool}, σ x = some (.list m (rs.map rideV)) → dat σ 3 (.ref x) = some (.list (rs.map rideD)) := fun h => dat_list (n := 2) h (datL_map fun r hr => dat_ride (n := 0) (hR r hr).1 (hR r hr).2.1)
  have dt : ∀ {x : Addr} {m : Bool}, σ x = some (.list m (ts.map tripV)) → dat σ 3 (.ref x) = some (.list (ts.map tripD)) := fun h => dat_list (n := 2) h (datL_map fun r hr => dat_trip (n := 0) (hT r hr).1 (hT r hr).2.1)
  have d2 : ∀ {x y z : Addr} {m m' m'' : Bool}, σ x = some (.list m [.ref y, .ref z]) → σ y = some (.list m' (rs.map rideV)) → σ z = some (.list m'' (ts.map tripV)) → dat σ 4 (.ref x) = some (.list [.list (rs.map rideD), .list (ts.map tripD)]) :=
    fun h h' h'' => dat_list (n := 3) h (datL_cons (dr h') (datL_cons (dt h'') rfl))
  rw [eqV_lists ha hd (d2 ha hb hc) (d2 hd he hf)]
  exact congrArg some (eqv_list (all_cons (eqv_rides rs) (all_cons (eqv_trips ts) all_nil)))

theorem zz_place : Place (Str.ofString "zz") := by
  have : Str.ofString "zz" = word [122, 122] := by decide +kernel
  rw [this]
  exact word_place (by simp) (by simp) fun c hc => by simp at hc; omega

end Mine

namespace Mine
open PySem
section
variable {S : Spec} {ρ : Loc} {σ : Store}
theorem rng_get2 {a n : Int} {k : Nat} {v : V} (h : (rngItems a n)[k]? = some v) : v = .int (a + k) ∧ a + (k : Int) < n := by
  unfold rngItems at h
  rw [List.getElem?_map] at h
  obtain ⟨j, hj, rfl⟩ := (Option.map_eq_some_iff).mp h
  obtain ⟨h2, h3⟩ := List.getElem?_eq_some_iff.mp hj
  rw [List.getElem_range] at h3
  subst h3
  rw [List.length_range] at h2
  exact ⟨rfl, by omega⟩
theorem rng_len2 {a n : Int} : (rngItems a n).length = (n - a).toNat := by
  unfold rngItems; rw [List.length_map, List.length_range]
theorem st_forR2 {Q : FPost} {r : List Mine.S} {t : Tgt} {it : X} {body : List Mine.S} {a n : Int} (hi : evP ρ σ it = some (.rng a n)) (hn : -1000000 ≤ a ∧ a ≤ 1000000 ∧ -1000000 ≤ n ∧ n ≤ 1000000)
    (h : forW (fun _ => True) (fun v ρ σ Q => ∃ ρ', bindT t v ρ = some ρ' ∧ wpSs S body ρ' σ Q) (rngItems a n) ρ σ fun f ρ' σ' => match f with | .next => wpSs S r ρ' σ' Q | .ret v => Q (.ret v) ρ' σ') : wpSs S (.for t it body :: r) ρ σ Q := by
  refine evP_ok (e := it) hi (ite_no (fun h => nomatch h) ?_)
  exact ⟨_, _, .rng hn, h⟩
/-- a comprehension with a filter, over a list of things -/
theorem wp_compIfM {α : Type} {h : α → V} {l : List α} {Q : Post} {t : Tgt} {it elt c : X} {p : Addr} {m : Bool} (hi : evP ρ σ it = some (.ref p)) (hp : σ p = some (.list m (l.map h))) (hz : l.length ≤ 1000000) (g : α → Bool) (f : α → V) (he : ∀ x ∈ l, ∃ ρ', bindT t (h x) ρ = some ρ' ∧ evP ρ' σ c = some (.bool (g x)) ∧ (g x = true → evP ρ' σ elt = some (f x)))
    (q : ∀ d, σ d = none → Q (.ref d) (σ.set d (.list true ((l.filter g).map f)))) : wpE S (.compIf t it c elt) ρ σ Q := by
  dsimp only [we_var, we_cst, we_gl, we_bin, we_cmp, we_cmp2, we_and, we_or, we_not, we_sub, we_slc, we_rev, we_list, we_tup, we_dict0, we_dict1, we_comp, we_compIf, we_call, we_len, we_listOf, we_dictOf, we_tupleOf, we_isi, we_max2, we_minOf, we_sorted, we_rng1, we_rng2, we_append, we_insert0, we_pop, we_get1, we_get2, we_nil, we_cons]
  refine evP_ok hi ⟨_, _, .list hp, by rw [List.length_map]; exact hz, ?_⟩
  refine compW_of (fun k acc σ' => σ' = σ ∧ acc = ((l.take k).filter g).map f) (fun _ _ _ _ h => by rw [h.1]; exact ⟨_, hp⟩) ?_ ?_ ⟨rfl, rfl⟩
  · rintro k v acc σ' K₁ K₂ hv ⟨rfl, rfl⟩ h1 h2 h3
    rw [List.getElem?_map] at hv
    obtain ⟨x, hx, rfl⟩ := Option.map_eq_some_iff.mp hv
    obtain ⟨ρ', b1, b2, b3⟩ := he x (List.mem_of_getElem? hx)
    refine ⟨ρ', b1, evP_ok b2 ?_⟩
    cases hg : g x with
    | true => exact h1 _ h3 ⟨ρ', b1, evP_ok (b3 hg) (h3 _ _ ⟨rfl, by rw [take_more hx, List.filter_append, List.map_append, List.filter_cons_of_pos hg]; rfl⟩)⟩
    | false => exact h2 _ ⟨rfl, by rw [take_more hx, List.filter_append, List.filter_cons_of_neg (by rw [hg]; decide), List.filter_nil, List.append_nil]⟩
  · rintro acc σ' ⟨rfl, rfl⟩ d hd
    rw [List.length_map, List.take_length]
    exact q d hd
end
theorem datL_str {σ : Store} {n : Nat} {l : List Str} (h : ∀ x ∈ l, Place x) : datL (dat σ (n + 1)) (l.map .str) = some (l.map .str) :=
  datL_map fun x hx => dat_str (h x hx)
theorem datL_int {σ : Store} {n : Nat} {l : List Int} : datL (dat σ (n + 1)) (l.map .int) = some (l.map .int) := datL_map fun _ _ => rfl
/-- a list that is not empty is not [] -/
theorem eq_nil_false {σ : Store} {a d : Addr} {m m' : Bool} {l : List V} {ds : List PyData} (ha : σ a = some (.list m l)) (hl : datL (dat σ 3) l = some ds) (hn : l ≠ []) (hd : σ d = some (.list m' [])) : cmpV .eq (.ref a) (.ref d) σ = some false := by
  have e1 := dat_list (n := 3) ha hl
  have e2 := dat_list (n := 3) hd (ds := []) rfl
  show eqV σ (.ref a) (.ref d) = _
  rw [eqV_lists ha hd e1 e2]
  cases l with
  | nil => exact absurd rfl hn
  | cons v r =>
    cases ds with
    | nil =>
      exfalso
      have h' : (match dat σ 3 v, datL (dat σ 3) r with | some d, some ds => some (d :: ds) | _, _ => Option.none) = some [] := hl
      cases hv : dat σ 3 v with
      | none => rw [hv] at h'; cases h'
      | some d =>
        rw [hv] at h'
        cases hr : datL (dat σ 3) r with
        | none => rw [hr] at h'; cases h'
        | some ds => rw [hr] at h'; cases h'
    | cons y ys => rfl
end Mine

namespace Mine
open PySem

/-! the law's own least minutes: as many passes as roads, and one more -/
noncomputable def rstep (es : Es) (r : Ride) : Es := (relax es r).getD es
noncomputable def rpass (roads : List Ride) (es : Es) : Es := roads.foldl rstep es
noncomputable def rpasses (roads : List Ride) : Nat → Es → Es
  | 0, es => es
  | n + 1, es => rpass roads (rpasses roads n es)

theorem rstep_cases (es : Es) (r : Ride) : (rstep es r = es ∧ relax es r = none) ∨ ∃ d, getE es r.1 = some d ∧ relax es r = some (putE es r.2.1 (d + r.2.2)) ∧ rstep es r = putE es r.2.1 (d + r.2.2) ∧ ∀ v, getE es r.2.1 = some v → d + r.2.2 < v := by
  cases h : relax es r with
  | none => exact .inl ⟨by unfold rstep; rw [h]; rfl, rfl⟩
  | some e =>
    refine .inr ?_
    have h' := h
    unfold relax at h
    cases h1 : getE es r.1 with
    | none => rw [h1] at h; cases h
    | some d =>
      rw [h1] at h
      refine ⟨d, rfl, ?_⟩
      cases h2 : getE es r.2.1 with
      | none =>
        rw [h2] at h; cases h
        exact ⟨rfl, by unfold rstep; rw [h']; rfl, fun v hv => by cases hv⟩
      | some d' =>
        rw [h2] at h
        have h3 : (if d + r.2.2 < d' then some (putE es r.2.1 (d + r.2.2)) else none) = some e := h
        by_cases hc : d + r.2.2 < d'
        · rw [if_pos hc] at h3; cases h3
          exact ⟨rfl, by unfold rstep; rw [h']; rfl, fun v hv => by cases hv; exact hc⟩
        · rw [if_neg hc] at h3; cases h3

section
variable {roads : List Ride} {place : Str} {e0 : Es}
/-- never under the least -/
noncomputable def AtLeast (e0 es : Es) : Prop := ∀ x v, getE es x = some v → ∃ d, getE e0 x = some d ∧ d ≤ v
structure PInv (roads : List Ride) (place : Str) (e0 es : Es) : Prop where
  inv : EInv roads place es
  ge : AtLeast e0 es

theorem rstep_inv (L : Least roads place e0) (hp : ∀ r ∈ roads, 1 ≤ r.2.2) {es : Es} {r : Ride} (hr : r ∈ roads) (h : PInv roads place e0 es) : PInv roads place e0 (rstep es r) := by
  rcases rstep_cases es r with ⟨e, _⟩ | ⟨d, h1, h2, h3, h4⟩
  · rw [e]; exact h
  · refine ⟨by rw [h3]; exact (relax_inv hp hr h.inv h2).1, fun x v hv => ?_⟩
    rw [h3, get_put] at hv
    by_cases hx : x = r.2.1
    · rw [if_pos hx] at hv; cases hv
      obtain ⟨d0, g1, g2⟩ := h.ge _ _ h1
      obtain ⟨d1, g3, g4⟩ := relax_none (L.done r hr) g1
      exact ⟨d1, by rw [hx]; exact g3, Int.le_trans g4 (Int.add_le_add_right g2 _)⟩
    · rw [if_neg hx] at hv; exact h.ge _ _ hv
theorem rstep_fin (L : Least roads place e0) {es : Es} {r : Ride} (hr : r ∈ roads) (h : PInv roads place e0 es) {x : Str} {v : Int} (h0 : getE e0 x = some v) (hx : getE es x = some v) : getE (rstep es r) x = some v := by
  rcases rstep_cases es r with ⟨e, _⟩ | ⟨d, h1, h2, h3, h4⟩
  · rw [e]; exact hx
  · rw [h3, get_put]
    by_cases hz : x = r.2.1
    · exfalso
      have k1 := h4 v (by rw [← hz]; exact hx)
      obtain ⟨d0, g1, g2⟩ := h.ge _ _ h1
      obtain ⟨d1, g3, g4⟩ := relax_none (L.done r hr) g1
      rw [← hz, h0] at g3; cases g3
      omega
    · rw [if_neg hz]; exact hx
theorem rstep_new {es : Es} {r : Ride} (h : PInv roads place e0 es) {d : Int} (h0 : getE e0 r.2.1 = some (d + r.2.2)) (hx : getE es r.1 = some d) : getE (rstep es r) r.2.1 = some (d + r.2.2) := by
  rcases rstep_cases es r with ⟨e, hn⟩ | ⟨d', h1, h2, h3, h4⟩
  · rw [e]
    obtain ⟨d', g1, g2⟩ := relax_none hn hx
    obtain ⟨d'', g3, g4⟩ := h.ge _ _ g1
    rw [h0] at g3; cases g3
    rw [g1]; exact congrArg some (Int.le_antisymm g2 g4)
  · rw [hx] at h1; cases h1
    rw [h3, get_put, if_pos rfl]

theorem fold_inv (L : Least roads place e0) (hp : ∀ r ∈ roads, 1 ≤ r.2.2) : ∀ {rs : List Ride} {es : Es}, (∀ r ∈ rs, r ∈ roads) → PInv roads place e0 es →
    PInv roads place e0 (rs.foldl rstep es) ∧ (∀ x v, getE e0 x = some v → getE es x = some v → getE (rs.foldl rstep es) x = some v) ∧
    ∀ r ∈ rs, ∀ d, getE e0 r.1 = some d → getE e0 r.2.1 = some (d + r.2.2) → getE es r.1 = some d → getE (rs.foldl rstep es) r.2.1 = some (d + r.2.2)
  | [], es, _, h => ⟨h, fun _ _ _ h => h, fun _ h => by cases h⟩
  | r :: rs, es, hs, h => by
    have hr := hs r (.head _)
    obtain ⟨i1, i2, i3⟩ := fold_inv L hp (fun x hx => hs x (List.mem_cons_of_mem _ hx)) (rstep_inv L hp hr h)
    refine ⟨i1, fun x v h0 hx => i2 x v h0 (rstep_fin L hr h h0 hx), fun s hm d h0 h1 h2 => ?_⟩
    rcases List.mem_cons.mp hm with rfl | hm
    · exact i2 _ _ h1 (rstep_new h h1 h2)
    · exact i3 s hm d h0 h1 (rstep_fin L hr h h0 h2)

noncomputable def lag (e0 es : Es) : Nat := (e0.map fun e => if getE es e.1 = some e.2 then 0 else 1).sum

theorem lag_zero {es : Es} : ∀ {l : Es}, (l.map fun e => if getE es e.1 = some e.2 then 0 else 1).sum = 0 → ∀ e ∈ l, getE es e.1 = some e.2
  | [], _, e, he => by cases he
  | a :: l, h, e, he => by
    rw [List.map_cons, List.sum_cons] at h
    have h1 := Nat.eq_zero_of_add_eq_zero_right h
    have h2 := Nat.eq_zero_of_add_eq_zero_left h
    rcases List.mem_cons.mp he with rfl | he
    · by_cases hc : getE es e.1 = some e.2
      · exact hc
      · rw [if_neg hc] at h1; cases h1
    · exact lag_zero h2 e he
theorem lag_le {es : Es} : ∀ {l : Es}, (l.map fun e => if getE es e.1 = some e.2 then 0 else 1).sum ≤ l.length
  | [] => Nat.le_refl _
  | a :: l => by
    rw [List.map_cons, List.sum_cons, List.length_cons, Nat.add_comm]
    refine Nat.add_le_add lag_le ?_
    split
    · exact Nat.zero_le _
    · exact Nat.le_refl _

theorem sum_zero {α : Type} : ∀ {l : List α}, (l.map fun _ => 0).sum = 0
  | [] => rfl
  | _ :: l => by rw [List.map_cons, List.sum_cons, sum_zero]

theorem pass_lag (L : Least roads place e0) (hp : ∀ r ∈ roads, 1 ≤ r.2.2) {es : Es} (h : PInv roads place e0 es) : lag e0 (rpass roads es) ≤ lag e0 es - 1 := by
  obtain ⟨i1, i2, i3⟩ := fold_inv L hp (rs := roads) (fun _ h => h) h
  by_cases hz : lag e0 es = 0
  · have all := lag_zero hz
    rw [hz]
    have : lag e0 (rpass roads es) = lag e0 es := by
      unfold lag
      refine congrArg List.sum (List.map_congr_left fun e he => ?_)
      rw [if_pos (all e he), if_pos (show getE (rpass roads es) e.1 = some e.2 from i2 _ _ (mem_get L.inv.nd he) (all e he))]
    rw [this, hz]; exact Nat.le_refl _
  · have le : ∀ e ∈ e0, (if getE (rpass roads es) e.1 = some e.2 then 0 else 1) ≤ (if getE es e.1 = some e.2 then 0 else 1) := fun e he => by
      by_cases hc : getE es e.1 = some e.2
      · rw [if_pos (show getE (rpass roads es) e.1 = some e.2 from i2 _ _ (mem_get L.inv.nd he) hc)]; exact Nat.zero_le _
      · rw [if_neg hc]; split
        · exact Nat.zero_le _
        · exact Nat.le_refl _
    -- one that lags, and whose road's start does not
    have find : ∀ n x v, getE e0 x = some v → v.toNat = n → ¬ getE es x = some v → ∃ y u, getE e0 y = some u ∧ ¬ getE es y = some u ∧ getE (rpass roads es) y = some u := by
      intro n
      induction n using Nat.strongRecOn with
      | ind n ih =>
        intro x v h0 hn hx
        have hxp : x ≠ place := by
          rintro rfl
          rw [L.inv.zero] at h0; cases h0
          exact hx h.inv.zero
        obtain ⟨r, hr, g1, d, g2, g3⟩ := L.tight h0 hxp
        subst g1; subst g3
        by_cases hc : getE es r.1 = some d
        · exact ⟨_, _, h0, hx, i3 r hr d g2 h0 hc⟩
        · have k1 := hp r hr
          have k2 := L.inv.pos _ _ g2
          exact ih d.toNat (by omega) _ d g2 rfl hc
    have lags : ∃ e ∈ e0, ¬ getE es e.1 = some e.2 := by
      refine Classical.byContradiction fun hno => hz ?_
      have all : ∀ e ∈ e0, getE es e.1 = some e.2 := fun e he => Classical.byContradiction fun hc => hno ⟨e, he, hc⟩
      unfold lag
      have : e0.map (fun e => if getE es e.1 = some e.2 then 0 else 1) = e0.map fun _ => 0 := List.map_congr_left fun e he => if_pos (all e he)
      rw [this]; exact sum_zero
    obtain ⟨e, he, hne⟩ := lags
    obtain ⟨y, u, y1, y2, y3⟩ := find _ _ _ (mem_get L.inv.nd he) rfl hne
    have := sum_lt le ⟨(y, u), get_mem y1, by
      show (if getE (rpass roads es) y = some u then 0 else 1) < (if getE es y = some u then 0 else 1)
      rw [if_pos y3, if_neg y2]; exact Nat.zero_lt_one⟩
    exact Nat.le_sub_one_of_lt this

theorem start_inv : EInv roads place [(place, 0)] := by
  have g : ∀ x v, getE [(place, (0 : Int))] x = some v → x = place ∧ v = 0 := by
    intro x v h
    unfold getE at h
    rw [List.find?_cons] at h
    by_cases hx : place = x
    · simp only [hx, decide_true, Option.map_some] at h; cases h; exact ⟨hx.symm, rfl⟩
    · simp only [hx, decide_false] at h; cases h
  refine ⟨by simp [getE], fun x v h => ?_, fun x v h hx => absurd (g x v h).1 hx, by simp, by simp⟩
  rw [(g x v h).2]; exact Int.le_refl _

theorem passes_inv (L : Least roads place e0) (hp : ∀ r ∈ roads, 1 ≤ r.2.2) : ∀ n, PInv roads place e0 (rpasses roads n [(place, 0)]) ∧ lag e0 (rpasses roads n [(place, 0)]) ≤ e0.length - n
  | 0 => ⟨⟨start_inv, fun x v h => by
      unfold getE at h
      rw [show rpasses roads 0 [(place, 0)] = [(place, 0)] from rfl, List.find?_cons] at h
      by_cases hx : place = x
      · simp only [hx, decide_true, Option.map_some] at h; cases h
        exact ⟨0, by rw [← hx]; exact L.inv.zero, Int.le_refl _⟩
      · simp only [hx, decide_false] at h; cases h⟩, lag_le⟩
  | n + 1 => by
    obtain ⟨h1, h2⟩ := passes_inv L hp n
    refine ⟨(fold_inv L hp (rs := roads) (fun _ h => h) h1).1, Nat.le_trans (pass_lag L hp h1) ?_⟩
    omega

/-- the law's least minutes are the program's -/
theorem passes_same (L : Least roads place e0) (hp : ∀ r ∈ roads, 1 ≤ r.2.2) : ∀ x, getE (rpasses roads (roads.length + 1) [(place, 0)]) x = getE e0 x := by
  obtain ⟨h1, h2⟩ := passes_inv L hp (roads.length + 1)
  have hl := L.inv.len
  have all := lag_zero (Nat.eq_zero_of_le_zero (Nat.le_trans h2 (by omega)))
  intro x
  cases h0 : getE e0 x with
  | some v => exact all _ (get_mem h0)
  | none =>
    cases h3 : getE (rpasses roads (roads.length + 1) [(place, 0)]) x with
    | none => rfl
    | some v => obtain ⟨d, h4, _⟩ := h1.ge _ _ h3; rw [h0] at h4; cases h4

/-! a way along tight roads -/
inductive Chain (roads : List Ride) (es : Es) : Str → Str → List Str → Prop where
  | one {y} : Chain roads es y y [y]
  | step {x z y p r d} : r ∈ roads → r.1 = x → r.2.1 = z → getE es x = some d → getE es z = some (d + r.2.2) → Chain roads es z y p → Chain roads es x y (x :: p)

theorem Chain.grow (hp : ∀ r ∈ roads, 1 ≤ r.2.2) {es : Es} {x y : Str} {p : List Str} (h : Chain roads es x y p) : ∀ {d}, getE es x = some d → ∃ e, getE es y = some e ∧ d ≤ e ∧ (p.length = 1 ∨ d < e) := by
  induction h with
  | one => exact fun hd => ⟨_, hd, Int.le_refl _, .inl rfl⟩
  | step hr h1 h2 h3 h4 _ ih =>
    intro d' hd'
    rw [h3] at hd'; cases hd'
    obtain ⟨e, k1, k2, _⟩ := ih h4
    have := hp _ hr
    exact ⟨e, k1, by omega, .inr (by omega)⟩
theorem Chain.head {es : Es} {x y : Str} {p : List Str} (h : Chain roads es x y p) : p[0]? = some x := by cases h <;> rfl
theorem Chain.last {es : Es} {x y : Str} {p : List Str} (h : Chain roads es x y p) : ∃ n, p.length = n + 1 ∧ p[n]? = some y := by
  induction h with
  | one => exact ⟨0, rfl, rfl⟩
  | step _ _ _ _ _ _ ih => obtain ⟨n, h1, h2⟩ := ih; exact ⟨n + 1, by rw [List.length_cons, h1], h2⟩
theorem Chain.at {es : Es} {x y : Str} {p : List Str} (h : Chain roads es x y p) : ∀ {k : Nat} {a b : Str}, p[k]? = some a → p[k + 1]? = some b → ∃ r ∈ roads, r.1 = a ∧ r.2.1 = b ∧ ∃ d, getE es a = some d ∧ getE es b = some (d + r.2.2) := by
  induction h with
  | one => intro k a b _ h; cases h
  | step hr h1 h2 h3 h4 hc ih =>
    intro k a b ha hb
    cases k with
    | zero => cases ha; cases (Eq.trans (show some b = _ from hb.symm) hc.head : some b = some _); exact ⟨_, hr, h1, h2, _, h3, h4⟩
    | succ k => exact ih ha hb
theorem Chain.mem {es : Es} {x y : Str} {p : List Str} {T : Str → Prop} (h : Chain roads es x y p) (hy : T y) (hr : ∀ r ∈ roads, T r.1) : ∀ a ∈ p, T a := by
  induction h with
  | one => intro a ha; cases ha with | head => exact hy | tail _ h => cases h
  | step h0 h1 _ _ _ _ ih =>
    intro a ha
    cases ha with
    | head => rw [← h1]; exact hr _ h0
    | tail _ h => exact ih hy a h
theorem Chain.nodup (hp : ∀ r ∈ roads, 1 ≤ r.2.2) {es : Es} {x y : Str} {p : List Str} (h : Chain roads es x y p) : ∀ {d}, getE es x = some d → p.Nodup ∧ ∀ a ∈ p, ∃ e, getE es a = some e ∧ d ≤ e := by
  induction h with
  | one => exact fun hd => ⟨List.nodup_cons.mpr ⟨(fun h => nomatch h), List.nodup_nil⟩, fun a ha => by cases ha with | head => exact ⟨_, hd, Int.le_refl _⟩ | tail _ h => cases h⟩
  | step hr h1 h2 h3 h4 _ ih =>
    intro d' hd'
    rw [h3] at hd'; cases hd'
    obtain ⟨i1, i2⟩ := ih h4
    have hw := hp _ hr
    refine ⟨List.nodup_cons.mpr ⟨fun hm => ?_, i1⟩, fun a ha => ?_⟩
    · obtain ⟨e, e1, e2⟩ := i2 _ hm
      rw [h3] at e1; cases e1; omega
    · cases ha with
      | head => exact ⟨_, h3, Int.le_refl _⟩
      | tail _ ha => obtain ⟨e, e1, e2⟩ := i2 _ ha; exact ⟨e, e1, by omega⟩
theorem Chain.len (hp : ∀ r ∈ roads, 1 ≤ r.2.2) {es : Es} (hI : EInv roads place es) {x y : Str} {p : List Str} (h : Chain roads es x y p) {d : Int} (hd : getE es x = some d) : p.length ≤ roads.length + 1 := by
  obtain ⟨h1, h2⟩ := h.nodup hp hd
  refine Nat.le_trans (nodup_len h1 (m := es.map (·.1)) fun a ha => ?_) (by rw [List.length_map]; exact hI.len)
  obtain ⟨e, he, _⟩ := h2 a ha
  exact List.mem_map.mpr ⟨_, get_mem he, rfl⟩

end
end Mine

namespace Mine
open PySem
theorem roads_pos {rs : List Ride} {ts : List Trip} (hr : ∀ r ∈ rs, RideOK r) (ht : ∀ t ∈ ts, TripOK t) : ∀ r ∈ roadsOf rs ts, 1 ≤ r.2.2 := by
  intro r h
  rcases List.mem_append.mp h with h | h
  · exact (hr r h).2.2.2.1
  · obtain ⟨t, ht', h⟩ := List.mem_flatMap.mp h
    unfold tripRoad at h
    split at h
    · cases h
    · cases h with
      | head => have := (ht t ht').2.2.2.1; show 1 ≤ t.2.2.2 - t.2.1; omega
      | tail _ h => cases h
theorem roads_len {rs : List Ride} {ts : List Trip} (hz : rs.length + ts.length ≤ 1000) : (roadsOf rs ts).length ≤ 1000 := by
  unfold roadsOf; rw [List.length_append]; exact Nat.le_trans (Nat.add_le_add_left (tripRoad_len ts) _) hz

theorem law_least_ok {roads : List Ride} {place : Str} {e0 : Es} (L : Least roads place e0) (hp : ∀ r ∈ roads, 1 ≤ r.2.2) (hz : roads.length ≤ 1000) {k : Nat} {σ : Store} {a : Addr} {m : Bool} {Q : Post} (ha : σ a = some (.list m (roads.map rideV)))
    (q : ∀ d, σ d = none → Q (.ref d) (σ.set d (.ds true (esV (rpasses roads (roads.length + 1) [(place, 0)]))))) : specAt P (k + 1) 22 [.ref a, .str place] σ Q := by
  refine spec_of (xs := f_law_least) rfl rfl ?_
  unfold f_law_least
  refine st_asgE ?_
  refine ⟨_, rfl, place, rfl, fun d hd => ?_⟩
  have had : a ≠ d := by rintro rfl; rw [hd] at ha; cases ha
  have ha' : ∀ o, (σ.set d o) a = some (.list m (roads.map rideV)) := fun o => by rw [set_ne had]; exact ha
  have hz' : (roads.map rideV).length ≤ 1000000 := by rw [List.length_map]; exact Nat.le_trans hz (by decide)
  have e1 : (((roads.map rideV).length : Int) + 1) = ((roads.length + 1 : Nat) : Int) := by rw [List.length_map]; rfl
  refine st_forR (n := ((roads.length + 1 : Nat) : Int)) (ev_rng1 (by rw [← e1]; exact ev_add (ev_lenL (ha' _) hz' (ev_var rfl)) rfl)) (by omega) (forW_of (fun j ρ' σ' => σ' = σ.set d (.ds true (esV (rpasses roads j [(place, 0)]))) ∧ ρ' 0 = some (.ref a) ∧ ρ' 2 = some (.ref d)) (fun _ _ _ _ _ => trivial) ?_ ?_ ⟨rfl, rfl, rfl⟩)
  · rintro j w ρ' _ K hw ⟨rfl, r0, r2⟩ hn hx
    refine ⟨_, rfl, ?_⟩
    have hI := (passes_inv L hp j).1
    generalize hes : rpasses roads j [(place, 0)] = es at hI
    have hnx : rpasses roads (j + 1) [(place, 0)] = rpass roads es := by rw [← hes]; rfl
    rw [hnx] at hn
    refine st_forL (p := a) (ev_var r0) (ha' _) (forW_of (fun i ρ'' σ' => σ' = σ.set d (.ds true (esV ((roads.take i).foldl rstep es))) ∧ ρ'' 0 = some (.ref a) ∧ ρ'' 2 = some (.ref d)) ?_ ?_ ?_ ⟨rfl, r0, r2⟩)
    · rintro i ρ'' σ' _ ⟨rfl, _⟩; exact ⟨_, ha' _⟩
    · rintro i w' ρ'' _ K' hw' ⟨rfl, p0, p2⟩ hn' hx'
      rw [List.getElem?_map] at hw'
      obtain ⟨r, hr, rfl⟩ := Option.map_eq_some_iff.mp hw'
      have hJ := (fold_inv L hp (rs := roads.take i) (fun r hr => List.mem_of_mem_take hr) hI).1
      rw [take_more hr, List.foldl_append] at hn'
      refine ⟨_, rfl, ?_⟩
      generalize (roads.take i).foldl rstep es = es' at hJ hn' ⊢
      have hlen := hJ.inv.len
      have hs : (σ.set d (.ds true (esV es'))) d = some (.ds true (esV es')) := set_self
      have s0 : evP (ρ''.set 4 (rideV r)) (σ.set d (.ds true (esV es'))) (.sub (.var 4) (.cst (.int 0))) = some (.str r.1) := rfl
      have hc := ev_in (ρ := ρ''.set 4 (rideV r)) (b := .var 2) hs s0 (ev_var p2)
      rcases rstep_cases es' r with ⟨g1, g2⟩ | ⟨e, g1, g2, g3, g4⟩
      · have nx : ∀ ρ₃ : Loc, ρ₃ 0 = some (.ref a) → ρ₃ 2 = some (.ref d) → K' .next ρ₃ (σ.set d (.ds true (esV es'))) := fun ρ₃ z0 z2 => hn' _ _ ⟨by rw [List.foldl_cons, List.foldl_nil, g1], z0, z2⟩
        cases h1 : getE es' r.1 with
        | none => rw [h1] at hc; exact st_no hc (st_nil (nx _ p0 p2))
        | some e =>
          rw [h1] at hc
          obtain ⟨d', h3, h4⟩ := relax_none g2 h1
          refine st_yes hc (st_asg (v := .int (e + r.2.2)) (ev_add (ev_at hs h1 (ev_var p2) s0) rfl) (st_ifE ?_))
          refine ⟨_, rfl, _, p2, d, _, _, rfl, hs, _, rfl, .str r.2.1, rfl, _, rfl, _, _, r.2.1, rfl, hs, false, ?_, st_nil (S := specAt P k) (nx _ p0 p2)⟩
          rw [look_esV, h3]
          exact congrArg some (decide_eq_false (by omega))
      · rw [g1] at hc
        refine st_yes hc (st_asg (v := .int (e + r.2.2)) (ev_add (ev_at hs g1 (ev_var p2) s0) rfl) (st_ifE ?_))
        refine ⟨_, rfl, _, p2, d, _, _, rfl, hs, _, rfl, .str r.2.1, rfl, _, rfl, _, _, r.2.1, rfl, hs, true, ?_, ?_⟩
        · rw [look_esV]
          cases h3 : getE es' r.2.1 with
          | none => exact congrArg some (decide_eq_true (Int.lt_succ _))
          | some v => exact congrArg some (decide_eq_true (g4 v h3))
        · refine st_setS (p := d) (x := r.2.1) (v := .int (e + r.2.2)) rfl (ev_var p2) rfl hs (by unfold esV; rw [List.length_map]; omega) (st_nil (hn' _ _ ⟨?_, p0, p2⟩))
          rw [set_set, put_esV, List.foldl_cons, List.foldl_nil, g3]
    · rintro ρ'' σ' ⟨rfl, p0, p2⟩
      rw [List.length_map, List.take_length]
      exact st_nil (hn _ _ ⟨rfl, p0, p2⟩)
  · rintro ρ' σ' ⟨rfl, r0, r2⟩
    rw [rng_len (by omega)]
    refine st_ret (v := .ref d) r2 ?_
    have := q d hd
    exact this
end Mine

namespace Mine
open PySem

theorem place_ahead_ok {k : Nat} {roads : List Ride} {place : Str} {es : Es} (L : Least roads place es) {x : Str} {v : Int} (hx : getE es x = some v) (hxp : x ≠ place) {σ : Store} {a f : Addr} {m m' : Bool} {Q : Post} (ha : σ a = some (.list m (roads.map rideV))) (hf : σ f = some (.ds m' (esV es)))
    (q : ∀ r ∈ roads, r.2.1 = x → ∀ d, getE es r.1 = some d → d + r.2.2 = v → Q (.str r.1) σ) : specAt P (k + 1) 20 [.ref a, .ref f, .str x] σ Q := by
  refine spec_of (xs := f_place_ahead) rfl rfl ?_
  unfold f_place_ahead
  refine st_asg rfl (st_forL (p := a) rfl ha (forW_of (fun j ρ' σ' => σ' = σ ∧ ρ' 1 = some (.ref f) ∧ ρ' 2 = some (.str x) ∧ ∃ y, ρ' 3 = some (.str y) ∧ ((∃ r ∈ roads, tightAt es x v r = true ∧ r.1 = y) ∨ ∀ r ∈ roads.take j, tightAt es x v r = false)) ?_ ?_ ?_ ⟨rfl, rfl, rfl, x, rfl, .inr fun r h => by cases h⟩))
  · rintro j ρ' σ' _ ⟨rfl, _⟩; exact ⟨_, ha⟩
  · rintro j w ρ' σ K hw ⟨rfl, r1, r2, y, r3, hy⟩ hn hx'
    rw [List.getElem?_map] at hw
    obtain ⟨r, hr, rfl⟩ := Option.map_eq_some_iff.mp hw
    refine ⟨_, rfl, ?_⟩
    have hc : evP (((ρ'.set 4 (.str r.1)).set 5 (.str r.2.1)).set 6 (.int r.2.2)) σ (.and (.cmp .eq (.var 5) (.var 2)) (.and (.cmp .isin (.var 4) (.var 1)) (.cmp .eq (.bin .add (.sub (.var 1) (.var 4)) (.var 6)) (.sub (.var 1) (.var 2))))) = some (.bool (tightAt es x v r)) := by
      refine ev_and (ev_eqS (ev_var rfl) (ev_var r2)) fun _ => ev_and (ev_in hf (ev_var rfl) (ev_var r1)) fun h => ?_
      cases hg : getE es r.1 with
      | none => rw [hg] at h; cases h
      | some d => exact ev_eqI (ev_add (ev_at hf hg (ev_var r1) (ev_var rfl)) (ev_var rfl)) (ev_at hf hx (ev_var r1) (ev_var r2))
    cases ht : tightAt es x v r with
    | true =>
      rw [ht] at hc
      exact st_yes hc (st_asg rfl (st_nil (hn _ _ ⟨rfl, r1, r2, r.1, rfl, .inl ⟨r, List.mem_of_getElem? hr, ht, rfl⟩⟩)))
    | false =>
      rw [ht] at hc
      refine st_no hc (st_nil (hn _ _ ⟨rfl, r1, r2, y, r3, hy.imp id fun h s hs => ?_⟩))
      rw [take_more hr] at hs
      rcases List.mem_append.mp hs with hs | hs
      · exact h s hs
      · cases hs with
        | head => exact ht
        | tail _ h => cases h
  · rintro ρ' σ' ⟨rfl, r1, r2, y, r3, hy⟩
    refine st_ret (v := .str y) r3 ?_
    rw [List.length_map, List.take_length] at hy
    rcases hy with ⟨r, hr, ht, rfl⟩ | hy
    · obtain ⟨h1, d, h2, h3⟩ := tightAt_iff.mp ht
      exact q r hr h1 d h2 h3
    · obtain ⟨r, hr, h1, d, h2, h3⟩ := L.tight hx hxp
      have := hy r hr
      rw [tightAt_iff.mpr ⟨h1, d, h2, h3⟩] at this; cases this

/-- what is told of a way -/
noncomputable def WayTo (roads : List Ride) (es : Es) (one other : Str) (σ : Store) (Q : Post) : Prop :=
  (getE es other = none → ∀ σ', Ext σ σ' → Q .none σ') ∧
  (∀ d p σ', Ext σ σ' → σ d = none → σ' d = some (.list true (p.map .str)) → Chain roads es one other p → Q (.ref d) σ')

theorem way_by_ok {roads : List Ride} {one : Str} (hp : ∀ r ∈ roads, 1 ≤ r.2.2) (hz : roads.length ≤ 1000) : ∃ es, Least roads one es ∧
    ∀ (k : Nat) (σ : Store) (a : Addr) (m : Bool) (other : Str) (Q : Post), σ a = some (.list m (roads.map rideV)) → WayTo roads es one other σ Q → specAt P (k + 2) 19 [.ref a, .str one, .str other] σ Q := by
  obtain ⟨es, L, hl⟩ := least_from_ok (place := one) hp (Nat.le_trans hz (by decide))
  refine ⟨es, L, fun k σ a m other Q ha q => ?_⟩
  refine spec_of (xs := f_way_by) rfl rfl ?_
  unfold f_way_by
  refine st_asgE (wp_call (vs := [.ref a, .str one]) rfl (hl _ _ _ _ _ ha fun f hf => ?_))
  have x1 := Ext.new (o := .ds true (esV es)) hf
  have hfs : (σ.set f (.ds true (esV es))) f = some (.ds true (esV es)) := set_self
  have haf := x1 _ _ ha
  have hfree : ∀ d, (σ.set f (.ds true (esV es))) d = none → σ d = none := fun d hd => by
    by_cases hdf : d = f
    · rw [hdf]; exact hf
    · rw [set_ne hdf] at hd; exact hd
  generalize σ.set f (.ds true (esV es)) = σ₁ at x1 hfs haf hfree ⊢
  cases ho : getE es other with
  | none =>
    have hin : evP (Loc.set (fun i => [V.ref a, V.str one, V.str other][i]?) 3 (.ref f)) σ₁ (.cmp .notin (.var 2) (.var 3)) = some (.bool true) := by
      have := ev_nin (ρ := Loc.set (fun i => [V.ref a, V.str one, V.str other][i]?) 3 (.ref f)) (σ := σ₁) (a := .var 2) (b := .var 3) (z := other) hfs rfl rfl
      rw [ho] at this; exact this
    exact st_yes hin (st_ret rfl (q.1 ho _ x1))
  | some v =>
    have hin : evP (Loc.set (fun i => [V.ref a, V.str one, V.str other][i]?) 3 (.ref f)) σ₁ (.cmp .notin (.var 2) (.var 3)) = some (.bool false) := by
      have := ev_nin (ρ := Loc.set (fun i => [V.ref a, V.str one, V.str other][i]?) 3 (.ref f)) (σ := σ₁) (a := .var 2) (b := .var 3) (z := other) hfs rfl rfl
      rw [ho] at this; exact this
    refine st_no hin (st_asgE (wp_list rfl fun d hd => ?_))
    have hda : a ≠ d := by rintro rfl; rw [hd] at haf; cases haf
    have hdf : f ≠ d := by rintro rfl; rw [hd] at hfs; cases hfs
    have loop : ∀ (n : Nat) (x : Str) (u : Int) (p : List Str) (ρ : Loc) (R : FPost), getE es x = some u → u.toNat < n → Chain roads es x other (x :: p) → ρ 0 = some (.ref a) → ρ 1 = some (.str one) → ρ 3 = some (.ref f) → ρ 4 = some (.ref d) →
        (∀ ρ' p', Chain roads es one other p' → ρ' 4 = some (.ref d) → R .next ρ' (σ₁.set d (.list true (p'.map .str)))) →
        whileW (fun ρ σ Q => wpE (specAt P (k + 1)) (.cmp .ne (.sub (.var 4) (.cst (.int 0))) (.var 1)) ρ σ (asBool Q)) (fun ρ σ Q => wpSs (specAt P (k + 1)) [.expr (.insert0 (.var 4) (.call 20 [.var 0, .var 3, .sub (.var 4) (.cst (.int 0))]))] ρ σ Q) n ρ (σ₁.set d (.list true ((x :: p).map .str))) R := by
      intro n
      induction n with
      | zero => intro x u p ρ R _ h; exact absurd h (Nat.not_lt_zero _)
      | succ n ih =>
        intro x u p ρ R hu hlt hch r0 r1 r3 r4 hR
        have hs : (σ₁.set d (.list true ((x :: p).map .str))) d = some (.list true ((x :: p).map .str)) := set_self
        have hc : evP ρ (σ₁.set d (.list true ((x :: p).map .str))) (.cmp .ne (.sub (.var 4) (.cst (.int 0))) (.var 1)) = some (.bool !(decide (x = one))) := ev_neS (ev_list hs (Int.le_refl _) rfl (ev_var r4) rfl) (ev_var r1)
        unfold whileW
        refine evP_ok hc ?_
        by_cases hxo : x = one
        · subst hxo
          rw [decide_eq_true rfl]
          exact hR ρ _ hch r4
        · rw [decide_eq_false hxo]
          show wpSs _ _ _ _ _
          refine st_expr ?_
          dsimp only [we_var, we_cst, we_gl, we_bin, we_cmp, we_cmp2, we_and, we_or, we_not, we_sub, we_slc, we_rev, we_list, we_tup, we_dict0, we_dict1, we_comp, we_compIf, we_call, we_len, we_listOf, we_dictOf, we_tupleOf, we_isi, we_max2, we_minOf, we_sorted, we_rng1, we_rng2, we_append, we_insert0, we_pop, we_get1, we_get2, we_nil, we_cons]
          refine ⟨_, r4, d, _, rfl, hs, _, r0, _, r3, _, r4, _, list_sub hs (Int.le_refl _) rfl, ?_⟩
          have haf' : (σ₁.set d (.list true ((x :: p).map .str))) a = some (.list m (roads.map rideV)) := by rw [set_ne hda]; exact haf
          have hff' : (σ₁.set d (.list true ((x :: p).map .str))) f = some (.ds true (esV es)) := by rw [set_ne hdf]; exact hfs
          refine place_ahead_ok L hu hxo haf' hff' fun r hr h1 e h2 h3 => ⟨_, hs, ?_, ?_⟩
          · rw [List.length_map]; exact Nat.le_trans (hch.len hp L.inv hu) (Nat.le_trans (Nat.succ_le_succ hz) (by decide))
          · rw [set_set]
            have k1 := hp r hr
            have k2 := L.inv.pos _ _ h2
            exact ih r.1 e (x :: p) ρ R h2 (by omega) (.step hr rfl h1 h2 (by rw [hu, h3]) hch) r0 r1 r3 r4 hR
    refine st_while (n := v.toNat + 1) (loop _ other v [] _ _ ho (Nat.lt_succ_self _) .one rfl rfl rfl rfl fun ρ' p' hch r4 => ?_)
    exact st_ret (v := .ref d) r4 (q.2 d p' _ (x1.trans (Ext.new hd)) (hfree d hd) set_self hch)

theorem way_ok {rs : List Ride} {ts : List Trip} {one : Str} (hr : ∀ r ∈ rs, RideOK r) (ht : ∀ t ∈ ts, TripOK t) (h1 : Place one) (hz : rs.length + ts.length ≤ 1000) : ∃ es, Least (roadsOf rs ts) one es ∧
    ∀ (k : Nat) (σ : Store) (a b : Addr) (m m' : Bool) (other : Str) (Q : Post), σ a = some (.list m (rs.map rideV)) → σ b = some (.list m' (ts.map tripV)) → Place other → WayTo (roadsOf rs ts) es one other σ Q → specAt P (k + 4) 21 [.ref a, .ref b, .str one, .str other] σ Q := by
  obtain ⟨es, L, hw⟩ := way_by_ok (one := one) (roads_pos hr ht) (roads_len hz)
  refine ⟨es, L, fun k σ a b m m' other Q ha hb h2 q => ?_⟩
  refine spec_of (xs := f_way) rfl rfl ?_
  unfold f_way
  refine st_expr (wp_call (vs := [.ref a, .ref b]) rfl (need_all_ok ha hb hr ht ?_))
  refine st_expr (wp_call (vs := [.str one]) rfl (need_place_ok h1 ?_))
  refine st_expr (wp_call (vs := [.str other]) rfl (need_place_ok h2 ?_))
  refine st_retE ?_
  dsimp only [we_var, we_cst, we_gl, we_bin, we_cmp, we_cmp2, we_and, we_or, we_not, we_sub, we_slc, we_rev, we_list, we_tup, we_dict0, we_dict1, we_comp, we_compIf, we_call, we_len, we_listOf, we_dictOf, we_tupleOf, we_isi, we_max2, we_minOf, we_sorted, we_rng1, we_rng2, we_append, we_insert0, we_pop, we_get1, we_get2, we_nil, we_cons]
  refine ⟨_, rfl, _, rfl, all_roads_ok ha hb hz fun d hd => ⟨_, rfl, _, rfl, hw _ _ _ _ _ _ set_self ?_⟩⟩
  have x := Ext.new (o := .list true ((roadsOf rs ts).map rideV)) hd
  refine ⟨fun h σ' e => q.1 h σ' (x.trans e), fun d' p σ' e h => q.2 d' p σ' (x.trans e) ?_⟩
  by_cases hz : d' = d
  · rw [hz]; exact hd
  · rw [set_ne hz] at h; exact h

end Mine

namespace Mine
open PySem

theorem sub_last {σ : Store} {p : Addr} {m : Bool} {l : List V} {n : Nat} {v : V} (hp : σ p = some (.list m l)) (hl : l.length = n + 1) (h : l[n]? = some v) : subV σ (.ref p) (.int (-1)) = some v := by
  show (match σ p, V.int (-1) with | some (.list _ l), .int i => idxL l i | some (.ds _ es), .str k => look es k | some (.di _ es), .int k => look es k | _, _ => Option.none) = _
  rw [hp]
  show idxL l (-1) = _
  unfold idxL
  rw [if_neg (by decide), if_pos (by omega), show ((l.length : Int) + -1).toNat = n by omega]
  exact h

theorem ty_list {σ : Store} {a : Addr} {m : Bool} {l : List V} (h : σ a = some (.list m l)) : tyV σ (.ref a) .list = some true := by
  show (match σ a with | some (.list ..) => some true | some (.ds ..) => some false | some (.di ..) => some false | _ => none : Option Bool) = _
  rw [h]
theorem law_good_ok {k : Nat} {roads : List Ride} {one other : Str} {es : Es} (L : Least roads one es) (hp : ∀ r ∈ roads, 1 ≤ r.2.2) (hP : ∀ r ∈ roads, Place r.1 ∧ Place r.2.1) (ho : Place other) (hz : roads.length ≤ 1000) {p : List Str} (hc : Chain roads es one other p) {v : Int} (hv : getE es other = some v) {σ : Store} {a b : Addr} {m m' : Bool} {Q : Post}
    (ha : σ a = some (.list m (p.map .str))) (hb : σ b = some (.list m' (roads.map rideV))) (q : ∀ σ', Ext σ σ' → Q (.bool true) σ') : specAt P (k + 1) 23 [.ref a, .ref b, .str one, .str other, .int v] σ Q := by
  have hpl : ∀ x ∈ p, Place x := hc.mem ho fun r hr => (hP r hr).1
  have h0 := hc.head
  obtain ⟨n, hn1, hn2⟩ := hc.last
  have hplen := hc.len hp L.inv L.inv.zero
  have get : ∀ {i : Nat} {x : Str}, p[i]? = some x → (p.map V.str)[i]? = some (V.str x) := fun h => by rw [List.getElem?_map, h]; rfl
  refine spec_of (xs := f_law_good) rfl rfl ?_
  unfold f_law_good
  refine st_ifE ?_
  refine ⟨_, rfl, true, ty_list ha, ?_⟩
  show ∃ v, _
  refine ⟨.ref a, rfl, fun d hd => ⟨false, ?_, ?_⟩⟩
  · refine eq_nil_false (Ext.new hd _ _ ha) (datL_str (n := 2) hpl) ?_ set_self
    intro h; have := congrArg List.length h; rw [List.length_map, hn1] at this; cases this
  have x1 := Ext.new (o := .list true []) hd
  generalize σ.set d (.list true []) = σ₁ at x1 ⊢
  have ha1 := x1 _ _ ha
  show ∃ v, _
  refine ⟨.ref a, rfl, .str one, list_sub ha1 (Int.le_refl _) (get h0), .str one, rfl, false, congrArg (fun t => some !t) (decide_eq_true rfl), ?_⟩
  show ∃ v, _
  refine ⟨.ref a, rfl, .str other, sub_last ha1 (by rw [List.length_map]; exact hn1) (get hn2), .str other, rfl, false, congrArg (fun t => some !t) (decide_eq_true rfl), ?_⟩
  show wpSs _ _ _ _ _
  have hz' : (p.map V.str).length ≤ 1000000 := by rw [List.length_map]; exact Nat.le_trans hplen (Nat.le_trans (Nat.succ_le_succ hz) (by decide))
  have hlen : (((p.map V.str).length : Nat) : Int) = (n : Int) + 1 := by rw [List.length_map, hn1]; rfl
  have hrng : evP (Loc.set (fun i => [V.ref a, .ref b, .str one, .str other, .int v][i]?) 5 (.int 0)) σ₁ (.rng2 (.cst (.int 1)) (.len (.var 0))) = some (.rng 1 (n + 1)) := by
    have := ev_lenL (ρ := Loc.set (fun i => [V.ref a, .ref b, .str one, .str other, .int v][i]?) 5 (.int 0)) (a := .var 0) ha1 hz' rfl
    show ((some (V.int 1)).bind fun x => (evP _ σ₁ (.len (.var 0))).bind fun y => rngP x y) = _
    rw [this, hlen]; rfl
  refine st_asg rfl (st_forR2 hrng (by omega) (forW_of (fun j ρ' σ' => Ext σ₁ σ' ∧ ρ' 0 = some (.ref a) ∧ ρ' 1 = some (.ref b) ∧ ρ' 2 = some (.str one) ∧ ρ' 3 = some (.str other) ∧ ρ' 4 = some (.int v) ∧ ∃ x u, p[j]? = some x ∧ getE es x = some u ∧ ρ' 5 = some (.int u)) (fun _ _ _ _ _ => trivial) ?_ ?_ ⟨.refl, rfl, rfl, rfl, rfl, rfl, one, 0, h0, L.inv.zero, rfl⟩))
  · rintro j w ρ' σ₂ K hw ⟨e2, r0, r1, r2, r3, r4, x, u, hx, hu, r5⟩ hn hxx
    obtain ⟨rfl, hlt⟩ := rng_get2 hw
    refine ⟨_, rfl, ?_⟩
    have ha2 := e2 _ _ ha1
    have hb2 := e2 _ _ (x1 _ _ hb)
    have hj : j + 1 < p.length := by omega
    obtain ⟨y, hy⟩ : ∃ y, p[j + 1]? = some y := ⟨_, List.getElem?_eq_getElem hj⟩
    obtain ⟨r, hr, k1, k2, e, k3, k4⟩ := hc.at hx hy
    rw [hu] at k3; cases k3
    refine st_asgE (wp_compIfM (h := rideV) (p := b) (ev_var r1) hb2 (Nat.le_trans hz (by decide)) (fun s => decide (s.1 = x) && decide (s.2.1 = y)) (fun s => .int s.2.2) (fun s hs => ⟨_, rfl, ?_, fun _ => rfl⟩) fun ds hds => ?_)
    · refine ev_and (ev_eqS rfl (ev_list ha2 (i := (1 + (j : Int)) - 1) (by omega) ?_ (ev_var r0) (ev_subI rfl rfl))) fun _ => ev_eqS rfl (ev_list ha2 (i := 1 + (j : Int)) (by omega) ?_ (ev_var r0) rfl)
      · rw [show (1 + (j : Int) - 1).toNat = j by omega]; exact get hx
      · rw [show (1 + (j : Int)).toNat = j + 1 by omega]; exact get hy
    generalize hst : roads.filter (fun s => decide (s.1 = x) && decide (s.2.1 = y)) = st at *
    have hmem : r ∈ st := by rw [← hst]; exact List.mem_filter.mpr ⟨hr, by rw [decide_eq_true k1, decide_eq_true k2]; rfl⟩
    have hall : ∀ s ∈ st, r.2.2 ≤ s.2.2 := fun s hs => by
      rw [← hst] at hs
      obtain ⟨s1, s2⟩ := List.mem_filter.mp hs
      rw [Bool.and_eq_true, decide_eq_true_eq, decide_eq_true_eq] at s2
      obtain ⟨d', z1, z2⟩ := relax_none (L.done s s1) (by rw [s2.1]; exact hu)
      rw [s2.2, k4] at z1; cases z1; omega
    have x3 := Ext.new (o := .list true (st.map fun s => V.int s.2.2)) hds
    have hsl : (σ₂.set ds (.list true (st.map fun s => V.int s.2.2))) ds = some (.list true (st.map fun s => V.int s.2.2)) := set_self
    generalize σ₂.set ds (.list true (st.map fun s => V.int s.2.2)) = σ₃ at x3 hsl ⊢
    refine st_ifE ?_
    refine ⟨.ref ds, rfl, fun dz hdz => ⟨false, ?_, ?_⟩⟩
    · refine eq_nil_false (Ext.new hdz _ _ hsl) (datL_map (h := fun s : Ride => PyData.int s.2.2) fun _ _ => rfl) ?_ set_self
      intro h
      have := List.map_eq_nil_iff.mp h
      rw [this] at hmem; cases hmem
    have x4 := Ext.new (o := .list true []) hdz
    show wpSs _ _ _ _ _
    refine st_asgE ?_
    refine ⟨_, r5, _, rfl, ds, true, st.map fun s => V.int s.2.2, ?_⟩
    have hst2 : ∃ s st', st = s :: st' := by cases st with | nil => cases hmem | cons s st' => exact ⟨s, st', rfl⟩
    obtain ⟨s, st', rfl⟩ := hst2
    have hints : ∀ l : List Ride, intsOf (l.map fun s => V.int s.2.2) = some (l.map fun s => s.2.2) := fun l => by
      induction l with
      | nil => rfl
      | cons z l ih => show (intsOf (l.map fun s => V.int s.2.2)).map _ = _; rw [ih]; rfl
    refine ⟨s.2.2, st'.map fun s : Ride => s.2.2, rfl, x4 _ _ hsl, ?_, hints (s :: st'), ?_⟩
    · rw [List.length_map, ← hst]; exact Nat.le_trans (List.length_filter_le _ _) (Nat.le_trans hz (by decide))
    · have hmin : (st'.map fun s : Ride => s.2.2).foldl min s.2.2 = r.2.2 := by
        refine foldl_min (fun z hz => ?_) ?_
        · obtain ⟨s', h1, rfl⟩ := List.mem_map.mp (show z ∈ (s :: st').map fun s => s.2.2 from hz)
          exact hall s' h1
        · exact (List.mem_map.mpr ⟨r, hmem, rfl⟩ : r.2.2 ∈ (s :: st').map fun s : Ride => s.2.2)
      rw [hmin]
      exact st_nil (S := specAt P k) (hn _ _ ⟨(e2.trans x3).trans x4, r0, r1, r2, r3, r4, y, _, hy, k4, rfl⟩)
  · rintro ρ' σ₂ ⟨e2, r0, r1, r2, r3, r4, x, u, hx, hu, r5⟩
    rw [rng_len2, show ((n : Int) + 1 - 1).toNat = n by omega, hn2] at hx
    cases hx
    rw [hv] at hu; cases hu
    have ha2 := e2 _ _ ha1
    have e1 : evP ρ' σ₂ (.cmp .eq (.var 5) (.var 4)) = some (.bool true) := by
      have := ev_eqI (ρ := ρ') (σ := σ₂) (ev_var r5) (ev_var r4)
      rw [decide_eq_true rfl] at this; exact this
    have e3 : evP ρ' σ₂ (.or (.cmp .ne (.var 2) (.var 3)) (.cmp .eq (.len (.var 0)) (.cst (.int 1)))) = some (.bool true) := by
      have := ev_or (ev_neS (ev_var r2) (ev_var r3)) fun _ => ev_eqI (ev_lenL ha2 hz' (ev_var r0)) (show evP ρ' σ₂ (.cst (.int 1)) = some (.int 1) from rfl)
      rw [this]
      refine congrArg (fun t => some (V.bool t)) ?_
      by_cases h : one = other
      · subst h
        obtain ⟨e, g1, g2, g3⟩ := hc.grow hp L.inv.zero
        rw [L.inv.zero] at g1; cases g1
        rcases g3 with g3 | g3
        · rw [List.length_map, g3]; simp
        · exact absurd g3 (by decide)
      · rw [decide_eq_false h]; rfl
    exact st_ret (v := .bool (true && true)) (ev_and e1 fun _ => e3) (q _ (x1.trans e2))
end Mine

namespace Mine
open PySem

/-- one of the places, or one that no road tells -/
theorem pick_ok {names : List Str} (hN : NamesOK names) (c : Int) : ∃ place, Place place ∧ (names ++ [Str.ofString "zz"])[(c % ((names.length : Int) + 1)).toNat]? = some place ∧ 0 ≤ c % ((names.length : Int) + 1) := by
  have p1 := Int.emod_nonneg c (b := (names.length : Int) + 1) (by omega)
  have p2 := Int.emod_lt_of_pos c (b := (names.length : Int) + 1) (by omega)
  have hlt : (c % ((names.length : Int) + 1)).toNat < (names ++ [Str.ofString "zz"]).length := by rw [List.length_append]; show _ < _ + 1; omega
  refine ⟨_, ?_, List.getElem?_eq_getElem hlt, p1⟩
  rcases List.mem_append.mp (List.getElem_mem hlt) with h | h
  · exact hN.place _ h
  · rw [List.mem_singleton.mp h]; exact zz_place

theorem law_03_true (a : Addr) (ns : List Int) (hz : ns.length ≤ 63) : specAt P 20 24 [.ref a] (σ0 a ns) fun v _ => v = .bool true := by
  have ha : (σ0 a ns) a = some (.list false (ns.map .int)) := if_pos rfl
  obtain ⟨names, rs, ts, hB, hbuilt⟩ := law_built_ok hz
  refine spec_of (xs := f_law_03) rfl rfl ?_
  unfold f_law_03
  refine st_manyE (wp_call (vs := [.ref a]) rfl (hbuilt _ _ _ _ _ ha fun dn dr dt σ₁ e₁ hdn hdr hdt => ⟨_, rfl, ?_⟩))
  have ha := e₁ _ _ ha
  have hR := fun r h => (hB.rides r h).1
  have hT := fun t h => (hB.trips t h).1
  have hcnt := hB.cnt
  have hsz : rs.length + ts.length ≤ 1000 := by have := hB.fewR; have := hB.fewT; omega
  clear e₁
  -- the places
  refine st_asgE ?_
  refine ⟨_, rfl, fun dz hdz => ?_⟩
  have e1 := Ext.new (o := .list true [.str (Str.ofString "zz")]) hdz
  refine ⟨_, _, e1 _ _ hdn, set_self, by rw [List.length_map]; show _ + 1 ≤ _; omega, fun dp hdp => ?_⟩
  have e2 := e1.trans (Ext.new (o := .list true (names.map .str ++ [.str (Str.ofString "zz")])) hdp)
  have hdp' : (((σ₁.set dz (.list true [.str (Str.ofString "zz")])).set dp (.list true (names.map .str ++ [.str (Str.ofString "zz")])))) dp = some (.list true ((names ++ [Str.ofString "zz"]).map .str)) := by rw [set_self, List.map_append]; rfl
  generalize (σ₁.set dz (.list true [.str (Str.ofString "zz")])).set dp (.list true (names.map .str ++ [.str (Str.ofString "zz")])) = σ₂ at e2 hdp' ⊢
  obtain ⟨one, p1, g1, i1⟩ := pick_ok hB.nm (cellAt ns 24)
  obtain ⟨other, p2, g2, i2⟩ := pick_ok hB.nm (cellAt ns 25)
  have hlen : ((names ++ [Str.ofString "zz"]).map V.str).length = names.length + 1 := by rw [List.length_map, List.length_append]; rfl
  have hll : lenV σ₂ (.ref dp) = some (names.length + 1) := by rw [len_list hdp', hlen]
  have pick : ∀ {c : Int} {x : Str}, (names ++ [Str.ofString "zz"])[(c % ((names.length : Int) + 1)).toNat]? = some x → 0 ≤ c % ((names.length : Int) + 1) → subV σ₂ (.ref dp) (.int (c % ((names.length + 1 : Nat) : Int))) = some (.str x) := fun h h' => list_sub hdp' h' (by rw [List.getElem?_map]; exact congrArg (Option.map V.str) h)
  refine st_asgE ?_
  dsimp only [we_var, we_cst, we_gl, we_bin, we_cmp, we_cmp2, we_and, we_or, we_not, we_sub, we_slc, we_rev, we_list, we_tup, we_dict0, we_dict1, we_comp, we_compIf, we_call, we_len, we_listOf, we_dictOf, we_tupleOf, we_isi, we_max2, we_minOf, we_sorted, we_rng1, we_rng2, we_append, we_insert0, we_pop, we_get1, we_get2, we_nil, we_cons]
  refine ⟨_, rfl, _, rfl, cell_ok (j := 24) (e2 _ _ ha) hz ⟨_, rfl, _, hll, by omega, by omega, .str one, pick g1 i1, ?_⟩⟩
  refine st_asgE ?_
  dsimp only [we_var, we_cst, we_gl, we_bin, we_cmp, we_cmp2, we_and, we_or, we_not, we_sub, we_slc, we_rev, we_list, we_tup, we_dict0, we_dict1, we_comp, we_compIf, we_call, we_len, we_listOf, we_dictOf, we_tupleOf, we_isi, we_max2, we_minOf, we_sorted, we_rng1, we_rng2, we_append, we_insert0, we_pop, we_get1, we_get2, we_nil, we_cons]
  refine ⟨_, rfl, _, rfl, cell_ok (j := 25) (e2 _ _ ha) hz ⟨_, rfl, _, hll, by omega, by omega, .str other, pick g2 i2, ?_⟩⟩
  -- what is handed over
  have lr : (rs.map rideV).length ≤ 1000000 := by rw [List.length_map]; omega
  have lt : (ts.map tripV).length ≤ 1000000 := by rw [List.length_map]; omega
  refine st_asgE ?_
  refine ⟨.ref dr, rfl, rs.map rideV, seq_list (e2 _ _ hdr), lr, fun d1 hd1 => ?_⟩
  have e3 := e2.trans (Ext.new (o := .list true (rs.map rideV)) hd1)
  have k1 : (σ₂.set d1 (.list true (rs.map rideV))) d1 = some (.list true (rs.map rideV)) := set_self
  generalize σ₂.set d1 (.list true (rs.map rideV)) = σ₃ at e3 k1 ⊢
  refine ⟨.ref dt, rfl, ts.map tripV, seq_list (e3 _ _ hdt), lt, fun d2 hd2 => ?_⟩
  have x4 := Ext.new (o := .list true (ts.map tripV)) hd2
  have e4 := e3.trans x4
  have k1 := x4 _ _ k1
  have k2 : (σ₃.set d2 (.list true (ts.map tripV))) d2 = some (.list true (ts.map tripV)) := set_self
  generalize σ₃.set d2 (.list true (ts.map tripV)) = σ₄ at e4 k1 k2 ⊢
  intro dh hdh
  have x5 := Ext.new (o := .list true [.ref d1, .ref d2]) hdh
  have e5 := e4.trans x5
  have k1 := x5 _ _ k1
  have k2 := x5 _ _ k2
  have kh : (σ₄.set dh (.list true [.ref d1, .ref d2])) dh = some (.list true [.ref d1, .ref d2]) := set_self
  generalize σ₄.set dh (.list true [.ref d1, .ref d2]) = σ₅ at e5 k1 k2 kh ⊢
  clear x4 x5 e4 e3
  -- the roads
  refine st_asgE (wp_call (vs := [.ref dr, .ref dt]) rfl (law_roads_ok (e5 _ _ hdr) (e5 _ _ hdt) hsz fun dl hdl => ?_))
  have x6 := Ext.new (o := .list true ((roadsOf rs ts).map rideV)) hdl
  have e6 := e5.trans x6
  have kl : (σ₅.set dl (.list true ((roadsOf rs ts).map rideV))) dl = some (.list true ((roadsOf rs ts).map rideV)) := set_self
  have k1 := x6 _ _ k1
  have k2 := x6 _ _ k2
  have kh := x6 _ _ kh
  generalize σ₅.set dl (.list true ((roadsOf rs ts).map rideV)) = σ₆ at e6 k1 k2 kh kl ⊢
  clear x6 e5
  obtain ⟨es, L, hway⟩ := way_ok hR hT p1 hsz
  have hpos := roads_pos hR hT
  have hrl := roads_len hsz
  refine st_asgE (wp_call (vs := [.ref dl, .str one]) rfl (law_least_ok L hpos hrl kl fun df hdf => ?_))
  generalize hE : rpasses (roadsOf rs ts) ((roadsOf rs ts).length + 1) [(one, 0)] = el
  have hel : ∀ x, getE el x = getE es x := fun x => by rw [← hE]; exact passes_same L hpos x
  have x7 := Ext.new (o := .ds true (esV el)) hdf
  have e7 := e6.trans x7
  have kf : (σ₆.set df (.ds true (esV el))) df = some (.ds true (esV el)) := set_self
  have k1 := x7 _ _ k1
  have k2 := x7 _ _ k2
  have kh := x7 _ _ kh
  have kl := x7 _ _ kl
  have kr := e7 _ _ hdr
  have kt := e7 _ _ hdt
  generalize σ₆.set df (.ds true (esV el)) = σ₇ at kf k1 k2 kh kl kr kt ⊢
  clear x7 e7 e6 e2
  -- the handed things are as they were
  have done : ∀ (σ' : Store) (ρ : Loc) (Q : Post), Ext σ₇ σ' → ρ 4 = some (.ref dh) → ρ 9 = some (.ref dr) → ρ 10 = some (.ref dt) → (∀ σ'', Q (.bool true) σ'') → wpE (specAt P 19) (.cmp .eq (.var 4) (.list [.var 9, .var 10])) ρ σ' Q := fun σ' ρ Q e r4 r9 r10 q => by
    refine ⟨_, r4, _, r9, _, r10, fun d4 hd4 => ⟨true, ?_, q _⟩⟩
    have x := e.trans (Ext.new (o := .list true [.ref dr, .ref dt]) hd4)
    exact handed_eq hR hT (x _ _ kh) (x _ _ k1) (x _ _ k2) set_self (x _ _ kr) (x _ _ kt)
  refine st_forR (n := 2) rfl (by omega) (forW_of (fun j ρ' σ' => Ext σ₇ σ' ∧ ρ' 2 = some (.str one) ∧ ρ' 3 = some (.str other) ∧ ρ' 4 = some (.ref dh) ∧ ρ' 5 = some (.ref dl) ∧ ρ' 6 = some (.ref df) ∧ ρ' 9 = some (.ref dr) ∧ ρ' 10 = some (.ref dt)) (fun _ _ _ _ _ => trivial) ?_ ?_ ⟨.refl, rfl, rfl, rfl, rfl, rfl, rfl, rfl⟩)
  · rintro j w ρ σ K hw ⟨e, r2, r3, r4, r5, r6, r9, r10⟩ hn hx
    refine ⟨_, rfl, ?_⟩
    have args : evPs (ρ.set 7 w) σ [.sub (.var 4) (.cst (.int 0)), .sub (.var 4) (.cst (.int 1)), .var 2, .var 3] = some [.ref d1, .ref d2, .str one, .str other] :=
      ev_cons (ev_list (e _ _ kh) (Int.le_refl _) rfl (ev_var r4) rfl) (ev_cons (ev_list (e _ _ kh) (by decide) rfl (ev_var r4) rfl) (ev_cons (ev_var r2) (ev_cons (ev_var r3) ev_nil)))
    refine st_asgE (wp_call args (hway _ _ _ _ _ _ _ _ (e _ _ k1) (e _ _ k2) p2 ⟨fun hno σ' e' => ?_, fun d p σ' e' hd hp hch => ?_⟩))
    · have hc := ev_nin (ρ := (ρ.set 7 w).set 11 .none) (a := .var 3) (b := .var 6) (e' _ _ (e _ _ kf)) (ev_var r3) (ev_var r6)
      rw [hel, hno] at hc
      refine st_yes hc (st_retE ?_)
      show wpE _ (.cmp .is (.var 11) (.cst .none)) _ _ _
      refine evP_ok (v := .bool true) rfl ?_
      simp only [asBool, if_true]
      exact done _ _ _ (e.trans e') r4 r9 r10 fun σ'' => hx _ _ _ rfl
    · obtain ⟨v, hv, _⟩ := hch.grow hpos L.inv.zero
      have hc := ev_nin (ρ := (ρ.set 7 w).set 11 (.ref d)) (a := .var 3) (b := .var 6) (e' _ _ (e _ _ kf)) (ev_var r3) (ev_var r6)
      rw [hel, hv] at hc
      refine st_no hc (st_ifE ?_)
      have args2 : evPs ((ρ.set 7 w).set 11 (.ref d)) σ' [.var 11, .var 5, .var 2, .var 3, .sub (.var 6) (.var 3)] = some [.ref d, .ref dl, .str one, .str other, .int v] :=
        ev_cons rfl (ev_cons (ev_var r5) (ev_cons (ev_var r2) (ev_cons (ev_var r3) (ev_cons (ev_at (e' _ _ (e _ _ kf)) (by rw [hel]; exact hv) (ev_var r6) (ev_var r3)) ev_nil))))
      refine wp_call args2 (law_good_ok L hpos (roads_places hB.rides hB.trips) p2 hrl hch hv hp (e' _ _ (e _ _ kl)) fun σ'' e'' => ?_)
      refine st_app (o := 11) (p := d) rfl (e'' _ _ hp) rfl ?_ (st_nil (hn _ _ ⟨?_, r2, r3, r4, r5, r6, r9, r10⟩))
      · rw [List.length_map]; exact Nat.le_trans (hch.len hpos L.inv L.inv.zero) (Nat.le_trans (Nat.succ_le_succ hrl) (by decide))
      · intro b o hb
        rw [set_ne (by rintro rfl; rw [e _ _ hb] at hd; cases hd)]
        exact e'' _ _ (e' _ _ (e _ _ hb))
  · rintro ρ σ ⟨e, r2, r3, r4, r5, r6, r9, r10⟩
    exact st_retE (done _ _ _ e r4 r9 r10 fun σ'' => rfl)
end Mine

set_option Elab.async false
namespace Mine
open PySem PySem.W PyProof.Rows
noncomputable def CS : List (Str × V) := [(Str.ofString "LETTERS", .str (Str.ofString "abcdefghijklmnopqrstuvwxyz")), (Str.ofString "MOST_LETTERS", .int 12), (Str.ofString "MOST_MINUTE", .int 99999), (Str.ofString "MOST_RIDE", .int 9999)]
noncomputable def IDS : List (Str × Nat) := [(Str.ofString "is_whole", 0), (Str.ofString "is_place", 1), (Str.ofString "is_ride", 2), (Str.ofString "is_trip", 3), (Str.ofString "need_all", 4), (Str.ofString "need_place", 5), (Str.ofString "all_roads", 6), (Str.ofString "least_from", 7), (Str.ofString "way_by", 19), (Str.ofString "place_ahead", 20), (Str.ofString "way", 21), (Str.ofString "_law_cell_at", 10), (Str.ofString "_law_names", 11), (Str.ofString "_law_rides", 12), (Str.ofString "_law_trips", 13), (Str.ofString "_law_roads", 14), (Str.ofString "_law_least", 22), (Str.ofString "_law_built", 15), (Str.ofString "_law_good", 23), (Str.ofString "law", 24)]
/-- the part of the text that is looked at -/
noncomputable def VW : Program := PySem.W.view PySem.Challenge.pw_uf040028_03 [1, 2, 3, 4, 6, 7, 8, 9, 10, 11, 12, 13, 14, 15, 17, 18, 19, 20, 21, 23, 24, 25, 26, 27, 28, 29, 30, 31]
end Mine
open PySem PySem.W PyProof.Rows Mine
set_option maxRecDepth 100000
set_option maxHeartbeats 8000000
theorem Mine.said_ok : PySem.Challenge.rw_uf040028_03.wellSaid = true := by
  first
  | rw [Fast.te9446332074065402090]
    delta Fast.tw9446332074065402090
    iterate 18 (refine look_both ?_ (by decide +kernel))
    delta Fast.tw17960256430627541270
    iterate 2 (refine look_both ?_ (by decide +kernel))
    delta Fast.tw2436336058641802641
    iterate 13 (refine look_both ?_ (by decide +kernel))
    delta Fast.tw12908688711261696721
    iterate 5 (refine look_both ?_ (by decide +kernel))
    decide +kernel
  | decide +kernel
theorem Mine.left_boot {H : Heap} {g : Array GenState} {d : Drawn} {n : Nat} {β : Type} {G : Shared → Option Shared} {F : Shared → β} {r : Option β} : ∀ {x : Option Shared}, x.map (fun s => (s.heap, s.gens, s.drawn, s.toks)) = some (H, g, d, n) → (∀ os, (G ⟨H, g, d, n, os⟩).map F = r) → (x.bind G).map F = r
  | none, h, _ => nomatch h
  | some s, h, K => (congrArg (fun t : Heap × Array GenState × Drawn × Nat => (G ⟨t.1, t.2.1, t.2.2.1, t.2.2.2, s.os⟩).map F) (Option.some.inj h)).trans (K s.os)
theorem Mine.left_ok : LeftO PySem.Challenge.pw_uf040028_03 VW [] (fun s => xlAt VW [] s && recOk (RowW.records (OpenRow.toRowW (OpenLaw.row PySem.Challenge.rw_uf040028_03))) s) (Hook.obs Hook.none) (Hook.val Hook.none) 3700 := by
  intro w
  refine left_boot (boot_open (by kernel_rfl) rfl (fun s => by kernel_rfl) w) fun os => ?_
  first
  | delta topFrom openGood
    rw [Fast.te14082659384304107361, Fast.te14364793385576792824, Fast.te4187177175401517315, Fast.te821141287760084731, Fast.te3247288618530077131]
    kernel_rfl
  | kernel_rfl
theorem PySem.Challenge.cw_uf040028_03_holds : PySem.Challenge.rw_uf040028_03.Holds := by
  w_on
  refine holds_law said_ok fun said => ?_
  refine holds_open (q := VW) (loose := []) (Xt := fun s => xlAt VW [] s && recOk (RowW.records (OpenRow.toRowW (OpenLaw.row PySem.Challenge.rw_uf040028_03))) s) (XP := XL VW []) (Yf := Hook.obs Hook.none) (Ya := Hook.val Hook.none) (YP := Hook.says Hook.none) (N := 3700) left_ok (Hook.of Hook.none) (Hook.keeps Hook.none) (fun s e => xl_of s (Bool.and_eq_true_iff.mp e).1) XL.keeps (by rfl) (by rfl) (by rfl) (fun s e => recFacts_of (Bool.and_eq_true_iff.mp e).2) (by rfl) (by first | assumption | decide +kernel) (by decide +kernel) ⟨rfl, rfl, rfl, rfl, rfl, by decide +kernel⟩ ?hw ?hc
  case hw => w_witness2
  intro w s₀ s₁ mg mb G Y fa o pm cd doc dV kV ho hd hcd hD hmg hg args vals as hpre hlay hrd hwl hlo
  refine Ground.open G ?_
  intro T B D TE TW
  have TO := top_ok (cs := CS) (ids := IDS) T (by decide +kernel) bi_boot
  have FO := fns_ok (P := P) (prog := PySem.Challenge.pw_uf040028_03) (w := w) T TO (by
    unfold IDS
    simp only [List.forall_mem_cons]
    exact ⟨⟨v_is_whole, by decide +kernel⟩,
      ⟨v_is_place, by decide +kernel⟩,
      ⟨v_is_ride, by decide +kernel⟩,
      ⟨v_is_trip, by decide +kernel⟩,
      ⟨v_need_all, by decide +kernel⟩,
      ⟨v_need_place, by decide +kernel⟩,
      ⟨v_all_roads, by decide +kernel⟩,
      ⟨v_least_from, by decide +kernel⟩,
      ⟨v_way_by, by decide +kernel⟩,
      ⟨v_place_ahead, by decide +kernel⟩,
      ⟨v_way, by decide +kernel⟩,
      ⟨v_law_cell_at, by decide +kernel⟩,
      ⟨v_law_names, by decide +kernel⟩,
      ⟨v_law_rides, by decide +kernel⟩,
      ⟨v_law_trips_03, by decide +kernel⟩,
      ⟨v_law_roads, by decide +kernel⟩,
      ⟨v_law_least, by decide +kernel⟩,
      ⟨v_law_built, by decide +kernel⟩,
      ⟨v_law_good, by decide +kernel⟩,
      ⟨v_law_03, by decide +kernel⟩, fun _ h => nomatch h⟩)
  have hmg' : mg (Str.ofString "law") = some (.ref fa) := hmg
  have hfa : (glOf CS IDS mg).fns.lookup (Str.ofString "law") = some (24, fa) := by
    rw [gl_look, show IDS.lookup (Str.ofString "law") = some 24 by decide +kernel]
    show some (24, adOf mg (Str.ofString "law")) = _
    unfold adOf; rw [hmg']
  wrow_args hpre hlay hrd hwl hlo
  refine enter_call ?_
  rename Heap.IsList _ _ _ => hL
  rename IntsAre _ _ => hI
  rename (¬ _ < _) => hc
  refine law_call (spec_ok TO FO 20) ⟨rfl, by decide, by decide⟩ hfa hL hI (by omega) (low_of T) (law_03_true _ _ (by omega)) fun s' hb hos hgs => ?_
  refine GoodW.toG ⟨.inl ⟨.bool true, .bool true, [], rfl, fun _ => rfl, .bool true, ?_, fun _ => ⟨.nil, by simp⟩⟩, hb, hos, by rw [hgs, hg]⟩
  first | kernel_rfl | with_unfolding_all rfl | (simp [OpenLaw.row, OpenRow.toRowW]; done)
