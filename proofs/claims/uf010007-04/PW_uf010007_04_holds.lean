import PyProof.Rows.All
import Wide.All
import OpenK.AllK
import Wide.FinOn
import PySem.Challenge.RW_uf010007_04
set_option Elab.async false
set_option maxRecDepth 100000
set_option linter.unusedVariables false
set_option linter.unusedSimpArgs false
set_option genInjectivity false
set_option genSizeOf false
set_option genSizeOfSpec false
noncomputable section

namespace Mine

inductive V where
  | none
  | bool (b : Bool)
  | int (i : Int)
  | str (w : Nat)
  | tup (xs : List V)
  | ref (a : Nat)
  | clo (k : Nat) (xs : List V)

inductive O where
  | list (xs : List V)
  | flist (xs : List V)
  | inst (c : Nat) (fs : List (Nat × V))
  | dict (es : List (Nat × V))
  | exc (c : Nat)

abbrev Hp := List O

inductive B2 where | add | sub | mul | div | mod
inductive C2 where | eq | ne | lt | le | gt | ge | is_ | isnot | in_
inductive Ty where | int | bool | str | tuple | list | own (c : Nat)
inductive Bi where | len | int | list | tuple | max | min | sum
inductive ItK where | seq | range | rangeFrom (lo : Int) | rev | revRange | enum

inductive E where
  | none
  | bool (b : Bool)
  | int (i : Int)
  | str (w : Nat)
  | loc (i : Nat)
  | glob (k : Nat)
  | bin (op : B2) (a b : E)
  | not_ (a : E)
  | cmp (op : C2) (a b : E)
  | cmp2 (op1 op2 : C2) (a b c : E)
  | and_ (a b : E)
  | or_ (a b : E)
  | ite (c a b : E)
  | tup (es : List E)
  | lst (es : List E)
  | dct (ks : List Nat) (es : List E)
  | idx (a i : E)
  | slc (a lo hi : E)
  | attr (a : E) (f : Nat)
  | call (f : Nat) (es : List E)
  | new (c : Nat) (es : List E)
  | meth (a : E) (m : Nat) (es : List E)
  | bi (b : Bi) (es : List E)
  | isi (a : E) (t : Ty)
  | comp (n : Nat) (cap : List (Nat × Nat)) (t : List Nat) (k : ItK) (src : E) (conds : List E) (elt : E)

inductive Tg where
  | loc (i : Nat)
  | attr (a : E) (f : Nat)
  | idx (a i : E)
  | unp (is : List Nat)

inductive S where
  | skip
  | seq (a b : S)
  | expr (e : E)
  | asg (t : Tg) (e : E)
  | if_ (c : E) (a b : S)
  | while_ (c : E) (b : S)
  | for_ (t : List Nat) (k : ItK) (src : E) (b : S)
  | ret (e : E)
  | raise (c : Nat)

structure Fn where
  np : Nat
  n : Nat
  body : S

structure Genv where
  fn : Nat → Option Fn
  meth : Nat → Nat → Option Nat
  init : Nat → Option Nat
  glob : Nat → V
  sub : Nat → Nat → Bool
  at_ : Nat → Nat → Bool

abbrev lim : Nat := 16000000
abbrev mAppend : Nat := 0
abbrev mPop : Nat := 1

abbrev Oracle := Nat → List V → Hp → (V → Hp → Prop) → (Nat → Hp → Prop) → Prop

noncomputable def onSome {α : Type} (o : Option α) (k : α → Prop) : Prop := match o with
  | some a => k a
  | none => False
theorem onSome_some {α : Type} (a : α) (k : α → Prop) : onSome (some a) k = k a := rfl
theorem onSome_none {α : Type} (k : α → Prop) : onSome none k = False := rfl

noncomputable def V.asInt : V → Option Int
  | .int i => some i
  | _ => Option.none
noncomputable def V.asStr : V → Option Nat
  | .str i => some i
  | _ => Option.none
noncomputable def V.asTup : V → Option (List V)
  | .tup i => some i
  | _ => Option.none
noncomputable def V.asRef : V → Option Nat
  | .ref i => some i
  | _ => Option.none
noncomputable def V.asBool : V → Option Bool
  | .bool i => some i
  | _ => Option.none
noncomputable def O.asL : O → Option (List V)
  | .list xs => some xs
  | _ => none
noncomputable def O.asD : O → Option (List (Nat × V))
  | .dict es => some es
  | _ => none
noncomputable def O.items : O → Option (List V)
  | .list xs => some xs
  | .flist xs => some xs
  | _ => none

noncomputable def lstOf (v : V) (h : Hp) : Option (List V) := v.asRef.bind fun a => (h[a]?).bind O.asL
noncomputable def itmOf (v : V) (h : Hp) : Option (List V) := v.asRef.bind fun a => (h[a]?).bind O.items
noncomputable def seqAt (xs : List V) (i : Int) : Option V := if 0 ≤ i then xs[i.toNat]? else if 0 ≤ (xs.length : Int) + i then xs[((xs.length : Int) + i).toNat]? else none

noncomputable def setAt (xs : List V) (i : Int) (v : V) : Option (List V) := if 0 ≤ i ∧ i < (xs.length : Int) then some (xs.set i.toNat v) else none

noncomputable def getK : List (Nat × V) → Nat → Option V
  | [], _ => none
  | (j, v) :: r, k => if j = k then some v else getK r k
noncomputable def putK : List (Nat × V) → Nat → V → List (Nat × V)
  | [], k, v => [(k, v)]
  | (j, u) :: r, k, v => if j = k then (j, v) :: r else (j, u) :: putK r k v

noncomputable def small (i : Int) : Bool := decide (i.natAbs < 1152921504606846976)

noncomputable def repL (xs : List V) : Nat → List V
  | 0 => []
  | n + 1 => xs ++ repL xs n

noncomputable def intsV (a b : V) (f : Int → Int → Option (V × Hp)) : Option (V × Hp) := a.asInt.bind fun x => b.asInt.bind fun y => f x y
noncomputable def binop (op : B2) (a b : V) (h : Hp) : Option (V × Hp) := match op with
  | .add => match a.asInt with
    | some x => b.asInt.map fun y => (.int (x + y), h)
    | none => (lstOf a h).bind fun xs => (lstOf b h).bind fun ys => if xs.length + ys.length ≤ lim then some (.ref h.length, h ++ [.list (xs ++ ys)]) else none
  | .sub => intsV a b fun x y => some (.int (x - y), h)
  | .mul => match a.asInt with
    | some x => b.asInt.bind fun y => if (small x || small y) = true then some (.int (x * y), h) else none
    | none => (lstOf a h).bind fun xs => b.asInt.bind fun n => if n.natAbs ≤ lim ∧ xs.length * n.toNat ≤ lim then some (.ref h.length, h ++ [.list (repL xs n.toNat)]) else none
  | .div => intsV a b fun x y => if y ≠ 0 then some (.int (x.fdiv y), h) else none
  | .mod => intsV a b fun x y => if y ≠ 0 then some (.int (x.fmod y), h) else none

set_option genInjectivity true in
inductive D where
  | none
  | int (i : Int)
  | str (w : Nat)
  | tup (xs : List D)
  | list (xs : List D)

noncomputable def mapO {α β : Type} (f : α → Option β) : List α → Option (List β)
  | [] => some []
  | x :: xs => match f x, mapO f xs with
    | some y, some ys => some (y :: ys)
    | _, _ => none

noncomputable def rd : Nat → Hp → V → Option D
  | 0, _, _ => none
  | n + 1, h, v => match v with
    | .none => some .none
    | .int i => some (.int i)
    | .str w => some (.str w)
    | .tup xs => (mapO (rd n h) xs).map .tup
    | .ref a => match h[a]? with
      | some o => match o.items with
        | some xs => (mapO (rd n h) xs).map .list
        | none => none
      | none => none
    | _ => none

open Classical in
noncomputable def eqD (h : Hp) (a b : V) : Option Bool := match rd 60 h a, rd 60 h b with
  | some x, some y => some (decide (x = y))
  | _, _ => none

noncomputable def eqop (a b : V) (h : Hp) : Option Bool := match a.asBool with
  | some x => b.asBool.map fun y => decide (x = y)
  | none => eqD h a b

noncomputable def allStr : List V → Option (List Nat)
  | [] => some []
  | .str w :: r => (allStr r).map (w :: ·)
  | _ :: _ => none
noncomputable def allInt : List V → Option (List Int)
  | [] => some []
  | .int i :: r => (allInt r).map (i :: ·)
  | _ :: _ => none
noncomputable def inS : V → List V → Option Bool
  | .str a, xs => (allStr xs).map fun ws => decide (a ∈ ws)
  | .int a, xs => (allInt xs).map fun ns => decide (a ∈ ns)
  | _, _ => none

noncomputable def nilOf : V → Option Bool
  | .none => some true
  | .int _ => some false
  | .str _ => some false
  | .tup _ => some false
  | .ref _ => some false
  | _ => none
noncomputable def isNil : V → Bool
  | .none => true
  | _ => false
noncomputable def seqOf (v : V) (h : Hp) : Option (List V) := match v.asTup with
  | some xs => some xs
  | none => lstOf v h
noncomputable def cmpop (op : C2) (a b : V) (h : Hp) : Option Bool := match op with
  | .eq => eqop a b h
  | .ne => (eqop a b h).map not
  | .lt => a.asInt.bind fun x => b.asInt.map fun y => decide (x < y)
  | .le => a.asInt.bind fun x => b.asInt.map fun y => decide (x ≤ y)
  | .gt => a.asInt.bind fun x => b.asInt.map fun y => decide (y < x)
  | .ge => a.asInt.bind fun x => b.asInt.map fun y => decide (y ≤ x)
  | .is_ => if isNil b = true then nilOf a else none
  | .isnot => if isNil b = true then (nilOf a).map not else none
  | .in_ => (seqOf b h).bind (inS a)

noncomputable def idxO (o : O) (b : V) : Option V := match o.items with
  | some xs => b.asInt.bind (seqAt xs)
  | none => o.asD.bind fun es => b.asStr.bind (getK es)
noncomputable def idxop (a b : V) (h : Hp) : Option V := match a.asTup with
  | some xs => b.asInt.bind (seqAt xs)
  | none => a.asRef.bind fun r => (h[r]?).bind fun o => idxO o b

noncomputable def setO (o : O) (i v : V) : Option O := match o.asL with
  | some xs => i.asInt.bind fun n => (setAt xs n v).map .list
  | none => o.asD.bind fun es => i.asStr.bind fun k => if es.length < 400 then some (.dict (putK es k v)) else none

noncomputable def bnd : V → Option (Option Nat)
  | .none => some none
  | .int i => if 0 ≤ i then some (some i.toNat) else none
  | _ => none
noncomputable def cut (xs : List V) (lo hi : Option Nat) : List V :=
  let ys := match hi with | some n => xs.take n | none => xs
  match lo with | some n => ys.drop n | none => ys
noncomputable def tupFrom (xs : List V) (l u : Option Nat) (h : Hp) : Option (V × Hp) := match u with
  | some _ => none
  | none => l.bind fun n => if 1 ≤ n ∧ n ≤ xs.length then some (.tup (xs.drop n), h) else none
noncomputable def slcop (v lo hi : V) (h : Hp) : Option (V × Hp) := (bnd lo).bind fun l => (bnd hi).bind fun u => match v.asTup with
  | some xs => tupFrom xs l u h
  | none => (itmOf v h).map fun xs => (.ref h.length, h ++ [.list (cut xs l u)])

noncomputable def sumL : List V → Option Int
  | [] => some 0
  | .int i :: r => (sumL r).map (i + ·)
  | _ :: _ => none

noncomputable def arg1 : List V → Option V
  | [v] => some v
  | _ => none
noncomputable def arg2 : List V → Option (V × V)
  | [v, w] => some (v, w)
  | _ => none
noncomputable def lenOf (v : V) (h : Hp) : Option Nat := match v.asTup with
  | some xs => some xs.length
  | none => (itmOf v h).map List.length
noncomputable def intOf (v : V) : Option Int := match v.asBool with
  | some b => some (if b then 1 else 0)
  | none => v.asInt
noncomputable def biop (b : Bi) (vs : List V) (h : Hp) : Option (V × Hp) := match b with
  | .len => (arg1 vs).bind fun v => (lenOf v h).map fun n : Nat => (.int (n : Int), h)
  | .int => (arg1 vs).bind fun v => (intOf v).map fun i => (.int i, h)
  | .list => (arg1 vs).bind fun v => (lstOf v h).map fun xs => (.ref h.length, h ++ [.list xs])
  | .tuple => (arg1 vs).bind fun v => (lstOf v h).map fun xs => (.tup xs, h)
  | .max => (arg2 vs).bind fun p => p.1.asInt.bind fun a => p.2.asInt.map fun b => (.int (if a < b then b else a), h)
  | .min => (arg2 vs).bind fun p => p.1.asInt.bind fun a => p.2.asInt.map fun b => (.int (if b < a then b else a), h)
  | .sum => (arg1 vs).bind fun v => (lstOf v h).bind fun xs => (sumL xs).map fun i => (.int i, h)

noncomputable def Ty.code : Ty → Nat
  | .int => 0 | .bool => 1 | .str => 2 | .tuple => 3 | .list => 4 | .own _ => 5
noncomputable def kindV (v : V) (h : Hp) : Option Nat := match v with
  | .int _ => some 0
  | .bool _ => some 1
  | .str _ => some 2
  | .tup _ => some 3
  | .ref a => ((h[a]?).bind O.asL).map fun _ => 4
  | _ => none
noncomputable def isiop (v : V) (t : Ty) (h : Hp) : Option Bool := (kindV v h).bind fun k => if k ≠ 1 ∧ t.code < 5 then some (k == t.code) else if t.code < 2 then some true else none

noncomputable def rangeL (lo : Int) : Nat → List V
  | 0 => []
  | n + 1 => .int lo :: rangeL (lo + 1) n

noncomputable def enumL : Nat → List V → List V
  | _, [] => []
  | i, x :: xs => .tup [.int i, x] :: enumL (i + 1) xs

noncomputable def itSeq (v : V) (h : Hp) : Option (List V × (Hp → Prop)) := match v.asTup with
  | some xs => some (xs, fun _ => True)
  | none => v.asRef.bind fun a => (h[a]?).bind fun o => o.items.map fun xs => (xs, fun h' => h'[a]? = some o)
noncomputable def itRange (lo : Int) (v : V) : Option (List V × (Hp → Prop)) := v.asInt.bind fun n => if -1000 ≤ n ∧ n ≤ lim ∧ 0 ≤ lo ∧ lo ≤ lim then some (rangeL lo (n - lo).toNat, fun _ => True) else none
noncomputable def itop (k : ItK) (v : V) (h : Hp) : Option (List V × (Hp → Prop)) := match k with
  | .seq => itSeq v h
  | .range => itRange 0 v
  | .rangeFrom lo => itRange lo v
  | .rev => v.asRef.bind fun a => ((h[a]?).bind O.asL).map fun xs => (xs.reverse, fun h' => h'[a]? = some (.list xs))
  | .revRange => (itRange 0 v).map fun p => (p.1.reverse, p.2)
  | .enum => v.asRef.bind fun a => (h[a]?).bind fun o => o.items.map fun xs => (enumL 0 xs, fun h' => h'[a]? = some o)

abbrev Locs := List (Option V)

noncomputable def bindAll : List Nat → List V → Locs → Option Locs
  | [], [], l => some l
  | i :: is, v :: vs, l => if i < l.length then bindAll is vs (l.set i (some v)) else none
  | _, _, _ => none
noncomputable def bindT : List Nat → V → Locs → Option Locs
  | [i], v, l => if i < l.length then some (l.set i (some v)) else none
  | is, .tup vs, l => bindAll is vs l
  | _, _, _ => none

noncomputable def getL (l : Locs) (i : Nat) : Option V := match l[i]? with
  | some (some v) => some v
  | _ => none

noncomputable def capL : List (Nat × Nat) → Locs → Locs → Option Locs
  | [], _, l => some l
  | (i, j) :: r, o, l => match getL o j with
    | some v => capL r o (l.set i (some v))
    | none => none

noncomputable def isB : V → Option Bool
  | .bool b => some b
  | _ => none

noncomputable def compWp (grd : Hp → Prop) (step : V → Locs → Hp → (Locs → List V → Hp → Prop) → Prop) : List V → Locs → List V → Hp → (List V → Hp → Prop) → Prop
  | [], _, acc, h, K => grd h ∧ K acc h
  | x :: xs, l, acc, h, K => grd h ∧ step x l h (fun l' ys h' => (acc ++ ys).length ≤ lim ∧ compWp grd step xs l' (acc ++ ys) h' K)

section
variable (g : Genv) (C N : Oracle)
mutual
noncomputable def wpE (loc : Locs) : E → Hp → (V → Hp → Prop) → (Nat → Hp → Prop) → Prop
  | .none, h, Q, _ => Q .none h
  | .bool b, h, Q, _ => Q (.bool b) h
  | .int i, h, Q, _ => Q (.int i) h
  | .str w, h, Q, _ => Q (.str w) h
  | .loc i, h, Q, _ => onSome (getL loc i) fun v => Q v h
  | .glob k, h, Q, _ => Q (g.glob k) h
  | .bin op a b, h, Q, X => wpE loc a h (fun va h1 => wpE loc b h1 (fun vb h2 => onSome (binop op va vb h2) fun p => Q p.1 p.2) X) X
  | .not_ a, h, Q, X => wpE loc a h (fun v h1 => onSome (isB v) fun b => Q (.bool (!b)) h1) X
  | .cmp op a b, h, Q, X => wpE loc a h (fun va h1 => wpE loc b h1 (fun vb h2 => onSome (cmpop op va vb h2) fun r => Q (.bool r) h2) X) X
  | .cmp2 o1 o2 a b c, h, Q, X => wpE loc a h (fun va h1 => wpE loc b h1 (fun vb h2 => onSome (cmpop o1 va vb h2) fun r =>
      match r with
      | false => Q (.bool false) h2
      | true => wpE loc c h2 (fun vc h3 => onSome (cmpop o2 vb vc h3) fun r2 => Q (.bool r2) h3) X) X) X
  | .and_ a b, h, Q, X => wpE loc a h (fun v h1 => onSome (isB v) fun r => match r with | true => wpE loc b h1 Q X | false => Q (.bool false) h1) X
  | .or_ a b, h, Q, X => wpE loc a h (fun v h1 => onSome (isB v) fun r => match r with | true => Q (.bool true) h1 | false => wpE loc b h1 Q X) X
  | .ite c a b, h, Q, X => wpE loc c h (fun v h1 => onSome (isB v) fun r => match r with | true => wpE loc a h1 Q X | false => wpE loc b h1 Q X) X
  | .tup es, h, Q, X => wpEs loc es h (fun vs h1 => Q (.tup vs) h1) X
  | .lst es, h, Q, X => wpEs loc es h (fun vs h1 => Q (.ref h1.length) (h1 ++ [.list vs])) X
  | .dct ks es, h, Q, X => wpEs loc es h (fun vs h1 => Q (.ref h1.length) (h1 ++ [.dict (ks.zip vs)])) X
  | .idx a i, h, Q, X => wpE loc a h (fun va h1 => wpE loc i h1 (fun vi h2 => onSome (idxop va vi h2) fun v => Q v h2) X) X
  | .slc a lo hi, h, Q, X => wpE loc a h (fun va h1 => wpE loc lo h1 (fun vl h2 => wpE loc hi h2 (fun vh h3 => onSome (slcop va vl vh h3) fun p => Q p.1 p.2) X) X) X
  | .attr a f, h, Q, X => wpE loc a h (fun va h1 => match va with
      | .ref x => match h1[x]? with
        | some (.inst c fs) => g.at_ c f = true ∧ onSome (getK fs f) fun v => Q v h1
        | _ => False
      | _ => False) X
  | .call f es, h, Q, X => wpEs loc es h (fun vs h1 => C f vs h1 Q X) X
  | .new c es, h, Q, X => wpEs loc es h (fun vs h1 => onSome (g.init c) fun f => N f (.ref h1.length :: vs) (h1 ++ [.inst c []]) (fun v h2 => v = .none ∧ Q (.ref h1.length) h2) X) X
  | .meth a m es, h, Q, X => wpE loc a h (fun va h1 => match va with
      | .ref x => match h1[x]? with
        | some (.inst c _) => onSome (g.meth c m) fun f => wpEs loc es h1 (fun vs h2 => C f (.ref x :: vs) h2 Q X) X
        | some (.list xs) => match es.isEmpty with
          | true => m = mPop ∧ onSome xs.getLast? fun v => Q v (h1.set x (.list xs.dropLast))
          | false => m = mAppend ∧ wpEs loc es h1 (fun vs h2 => match vs with
            | [v] => match h2[x]? with
              | some (.list ys) => ys.length < lim ∧ Q .none (h2.set x (.list (ys ++ [v])))
              | _ => False
            | _ => False) X
        | _ => False
      | _ => False) X
  | .bi b es, h, Q, X => wpEs loc es h (fun vs h1 => onSome (biop b vs h1) fun p => Q p.1 p.2) X
  | .isi a t, h, Q, X => wpE loc a h (fun v h1 => onSome (isiop v t h1) fun b => Q (.bool b) h1) X
  | .comp n cap t k src conds elt, h, Q, X => wpE loc src h (fun v h1 => onSome (itop k v h1) fun p => onSome (capL cap loc (List.replicate n none)) fun l0 =>
      compWp p.2 (fun x l h2 K => onSome (bindT t x l) fun l1 => wpC l1 conds h2 (fun b h3 => match b with
        | true => wpE l1 elt h3 (fun y h4 => K l1 [y] h4) X
        | false => K l1 [] h3) X) p.1 l0 [] h1 (fun ys h5 => Q (.ref h5.length) (h5 ++ [.list ys]))) X
noncomputable def wpEs (loc : Locs) : List E → Hp → (List V → Hp → Prop) → (Nat → Hp → Prop) → Prop
  | [], h, Q, _ => Q [] h
  | e :: es, h, Q, X => wpE loc e h (fun v h1 => wpEs loc es h1 (fun vs h2 => Q (v :: vs) h2) X) X
noncomputable def wpC (loc : Locs) : List E → Hp → (Bool → Hp → Prop) → (Nat → Hp → Prop) → Prop
  | [], h, Q, _ => Q true h
  | e :: es, h, Q, X => wpE loc e h (fun v h1 => onSome (isB v) fun r => match r with | true => wpC loc es h1 Q X | false => Q false h1) X
end

structure St where
  loc : Locs
  hp : Hp

noncomputable def forWp (grd : Hp → Prop) (step : V → St → (St → Prop) → Prop) : List V → St → (St → Prop) → Prop
  | [], σ, K => grd σ.hp ∧ K σ
  | x :: xs, σ, K => grd σ.hp ∧ step x σ (fun σ' => forWp grd step xs σ' K)

noncomputable def wpTg (σ : St) (v : V) (KN : St → Prop) (X : Nat → Hp → Prop) : Tg → Prop
  | .loc i => i < σ.loc.length ∧ KN ⟨σ.loc.set i (some v), σ.hp⟩
  | .attr a f => wpE g C N σ.loc a σ.hp (fun va h => match va with
      | .ref x => match h[x]? with
        | some (.inst c fs) => g.at_ c f = true ∧ fs.length < 400 ∧ KN ⟨σ.loc, h.set x (.inst c (putK fs f v))⟩
        | _ => False
      | _ => False) X
  | .idx a i => wpE g C N σ.loc a σ.hp (fun va h => wpE g C N σ.loc i h (fun vi h2 => onSome va.asRef fun x => onSome ((h2[x]?).bind fun o => setO o vi v) fun o' => KN ⟨σ.loc, h2.set x o'⟩) X) X
  | .unp is => match v with
      | .tup vs => onSome (bindAll is vs σ.loc) fun l => KN ⟨l, σ.hp⟩
      | _ => False

noncomputable def wpS : S → St → (St → Prop) → (V → Hp → Prop) → (Nat → Hp → Prop) → Prop
  | .skip, σ, KN, _, _ => KN σ
  | .seq a b, σ, KN, KR, X => wpS a σ (fun σ' => wpS b σ' KN KR X) KR X
  | .expr e, σ, KN, _, X => wpE g C N σ.loc e σ.hp (fun _ h => KN ⟨σ.loc, h⟩) X
  | .asg t e, σ, KN, _, X => wpE g C N σ.loc e σ.hp (fun v h => wpTg g C N ⟨σ.loc, h⟩ v KN X t) X
  | .if_ c a b, σ, KN, KR, X => wpE g C N σ.loc c σ.hp (fun v h => onSome (isB v) fun r => match r with
      | true => wpS a ⟨σ.loc, h⟩ KN KR X
      | false => wpS b ⟨σ.loc, h⟩ KN KR X) X
  | .while_ c b, σ, KN, KR, X => ∀ P : St → Prop, (∀ σ, wpE g C N σ.loc c σ.hp (fun v h => onSome (isB v) fun r => match r with
      | true => wpS b ⟨σ.loc, h⟩ P KR X
      | false => KN ⟨σ.loc, h⟩) X → P σ) → P σ
  | .for_ t k src b, σ, KN, KR, X => wpE g C N σ.loc src σ.hp (fun v h => onSome (itop k v h) fun p =>
      forWp p.2 (fun x σ K => onSome (bindT t x σ.loc) fun l => wpS b ⟨l, σ.hp⟩ K KR X) p.1 ⟨σ.loc, h⟩ KN) X
  | .ret e, σ, _, KR, X => wpE g C N σ.loc e σ.hp KR X
  | .raise c, σ, _, _, X => X c σ.hp
end

noncomputable def bot : Oracle := fun _ _ _ _ _ => False
noncomputable def stepC (g : Genv) (C N : Oracle) : Oracle := fun f vs h Q X => onSome (g.fn f) fun fn => vs.length = fn.np ∧ fn.np ≤ fn.n ∧
  wpS g C N fn.body ⟨vs.map some ++ List.replicate (fn.n - fn.np) none, h⟩ (fun σ => Q .none σ.hp) Q X

noncomputable def callWp (g : Genv) : Nat → Oracle
  | 0 => bot
  | 1 => stepC g bot bot
  | r + 2 => stepC g (callWp g (r + 1)) (callWp g r)

end Mine

end
noncomputable section
namespace Mine
section
variable (g : Genv) (C N : Oracle)
theorem wE_none  (loc : Locs) (h : Hp) (Q : V → Hp → Prop) (X : Nat → Hp → Prop) : wpE g C N loc (.none ) h Q X = (Q .none h) := rfl
theorem wE_bool (b : Bool) (loc : Locs) (h : Hp) (Q : V → Hp → Prop) (X : Nat → Hp → Prop) : wpE g C N loc (.bool b) h Q X = (Q (.bool b) h) := rfl
theorem wE_int (i : Int) (loc : Locs) (h : Hp) (Q : V → Hp → Prop) (X : Nat → Hp → Prop) : wpE g C N loc (.int i) h Q X = (Q (.int i) h) := rfl
theorem wE_str (w : Nat) (loc : Locs) (h : Hp) (Q : V → Hp → Prop) (X : Nat → Hp → Prop) : wpE g C N loc (.str w) h Q X = (Q (.str w) h) := rfl
theorem wE_loc (i : Nat) (loc : Locs) (h : Hp) (Q : V → Hp → Prop) (X : Nat → Hp → Prop) : wpE g C N loc (.loc i) h Q X = (onSome (getL loc i) fun v => Q v h) := rfl
theorem wE_glob (k : Nat) (loc : Locs) (h : Hp) (Q : V → Hp → Prop) (X : Nat → Hp → Prop) : wpE g C N loc (.glob k) h Q X = (Q (g.glob k) h) := rfl
theorem wE_bin (op : B2) (a b : E) (loc : Locs) (h : Hp) (Q : V → Hp → Prop) (X : Nat → Hp → Prop) : wpE g C N loc (.bin op a b) h Q X = (wpE g C N loc a h (fun va h1 => wpE g C N loc b h1 (fun vb h2 => onSome (binop op va vb h2) fun p => Q p.1 p.2) X) X) := rfl
theorem wE_not_ (a : E) (loc : Locs) (h : Hp) (Q : V → Hp → Prop) (X : Nat → Hp → Prop) : wpE g C N loc (.not_ a) h Q X = (wpE g C N loc a h (fun v h1 => onSome (isB v) fun b => Q (.bool (!b)) h1) X) := rfl
theorem wE_cmp (op : C2) (a b : E) (loc : Locs) (h : Hp) (Q : V → Hp → Prop) (X : Nat → Hp → Prop) : wpE g C N loc (.cmp op a b) h Q X = (wpE g C N loc a h (fun va h1 => wpE g C N loc b h1 (fun vb h2 => onSome (cmpop op va vb h2) fun r => Q (.bool r) h2) X) X) := rfl
theorem wE_cmp2 (o1 o2 : C2) (a b c : E) (loc : Locs) (h : Hp) (Q : V → Hp → Prop) (X : Nat → Hp → Prop) : wpE g C N loc (.cmp2 o1 o2 a b c) h Q X = (wpE g C N loc a h (fun va h1 => wpE g C N loc b h1 (fun vb h2 => onSome (cmpop o1 va vb h2) fun r =>
      match r with
      | false => Q (.bool false) h2
      | true => wpE g C N loc c h2 (fun vc h3 => onSome (cmpop o2 vb vc h3) fun r2 => Q (.bool r2) h3) X) X) X) := rfl
theorem wE_and_ (a b : E) (loc : Locs) (h : Hp) (Q : V → Hp → Prop) (X : Nat → Hp → Prop) : wpE g C N loc (.and_ a b) h Q X = (wpE g C N loc a h (fun v h1 => onSome (isB v) fun r => match r with | true => wpE g C N loc b h1 Q X | false => Q (.bool false) h1) X) := rfl
theorem wE_or_ (a b : E) (loc : Locs) (h : Hp) (Q : V → Hp → Prop) (X : Nat → Hp → Prop) : wpE g C N loc (.or_ a b) h Q X = (wpE g C N loc a h (fun v h1 => onSome (isB v) fun r => match r with | true => Q (.bool true) h1 | false => wpE g C N loc b h1 Q X) X) := rfl
theorem wE_ite (c a b : E) (loc : Locs) (h : Hp) (Q : V → Hp → Prop) (X : Nat → Hp → Prop) : wpE g C N loc (.ite c a b) h Q X = (wpE g C N loc c h (fun v h1 => onSome (isB v) fun r => match r with | true => wpE g C N loc a h1 Q X | false => wpE g C N loc b h1 Q X) X) := rfl
theorem wE_tup (es : List E) (loc : Locs) (h : Hp) (Q : V → Hp → Prop) (X : Nat → Hp → Prop) : wpE g C N loc (.tup es) h Q X = (wpEs g C N loc es h (fun vs h1 => Q (.tup vs) h1) X) := rfl
theorem wE_lst (es : List E) (loc : Locs) (h : Hp) (Q : V → Hp → Prop) (X : Nat → Hp → Prop) : wpE g C N loc (.lst es) h Q X = (wpEs g C N loc es h (fun vs h1 => Q (.ref h1.length) (h1 ++ [.list vs])) X) := rfl
theorem wE_dct (ks : List Nat) (es : List E) (loc : Locs) (h : Hp) (Q : V → Hp → Prop) (X : Nat → Hp → Prop) : wpE g C N loc (.dct ks es) h Q X = (wpEs g C N loc es h (fun vs h1 => Q (.ref h1.length) (h1 ++ [.dict (ks.zip vs)])) X) := rfl
theorem wE_idx (a i : E) (loc : Locs) (h : Hp) (Q : V → Hp → Prop) (X : Nat → Hp → Prop) : wpE g C N loc (.idx a i) h Q X = (wpE g C N loc a h (fun va h1 => wpE g C N loc i h1 (fun vi h2 => onSome (idxop va vi h2) fun v => Q v h2) X) X) := rfl
theorem wE_slc (a lo hi : E) (loc : Locs) (h : Hp) (Q : V → Hp → Prop) (X : Nat → Hp → Prop) : wpE g C N loc (.slc a lo hi) h Q X = (wpE g C N loc a h (fun va h1 => wpE g C N loc lo h1 (fun vl h2 => wpE g C N loc hi h2 (fun vh h3 => onSome (slcop va vl vh h3) fun p => Q p.1 p.2) X) X) X) := rfl
theorem wE_attr (a : E) (f : Nat) (loc : Locs) (h : Hp) (Q : V → Hp → Prop) (X : Nat → Hp → Prop) : wpE g C N loc (.attr a f) h Q X = (wpE g C N loc a h (fun va h1 => match va with
      | .ref x => match h1[x]? with
        | some (.inst c fs) => g.at_ c f = true ∧ onSome (getK fs f) fun v => Q v h1
        | _ => False
      | _ => False) X) := rfl
theorem wE_call (f : Nat) (es : List E) (loc : Locs) (h : Hp) (Q : V → Hp → Prop) (X : Nat → Hp → Prop) : wpE g C N loc (.call f es) h Q X = (wpEs g C N loc es h (fun vs h1 => C f vs h1 Q X) X) := rfl
theorem wE_new (c : Nat) (es : List E) (loc : Locs) (h : Hp) (Q : V → Hp → Prop) (X : Nat → Hp → Prop) : wpE g C N loc (.new c es) h Q X = (wpEs g C N loc es h (fun vs h1 => onSome (g.init c) fun f => N f (.ref h1.length :: vs) (h1 ++ [.inst c []]) (fun v h2 => v = .none ∧ Q (.ref h1.length) h2) X) X) := rfl
theorem wE_meth (a : E) (m : Nat) (es : List E) (loc : Locs) (h : Hp) (Q : V → Hp → Prop) (X : Nat → Hp → Prop) : wpE g C N loc (.meth a m es) h Q X = (wpE g C N loc a h (fun va h1 => match va with
      | .ref x => match h1[x]? with
        | some (.inst c _) => onSome (g.meth c m) fun f => wpEs g C N loc es h1 (fun vs h2 => C f (.ref x :: vs) h2 Q X) X
        | some (.list xs) => match es.isEmpty with
          | true => m = mPop ∧ onSome xs.getLast? fun v => Q v (h1.set x (.list xs.dropLast))
          | false => m = mAppend ∧ wpEs g C N loc es h1 (fun vs h2 => match vs with
            | [v] => match h2[x]? with
              | some (.list ys) => ys.length < lim ∧ Q .none (h2.set x (.list (ys ++ [v])))
              | _ => False
            | _ => False) X
        | _ => False
      | _ => False) X) := rfl
theorem wE_bi (b : Bi) (es : List E) (loc : Locs) (h : Hp) (Q : V → Hp → Prop) (X : Nat → Hp → Prop) : wpE g C N loc (.bi b es) h Q X = (wpEs g C N loc es h (fun vs h1 => onSome (biop b vs h1) fun p => Q p.1 p.2) X) := rfl
theorem wE_isi (a : E) (t : Ty) (loc : Locs) (h : Hp) (Q : V → Hp → Prop) (X : Nat → Hp → Prop) : wpE g C N loc (.isi a t) h Q X = (wpE g C N loc a h (fun v h1 => onSome (isiop v t h1) fun b => Q (.bool b) h1) X) := rfl
theorem wE_comp (n : Nat) (cap : List (Nat × Nat)) (t : List Nat) (k : ItK) (src : E) (conds : List E) (elt : E) (loc : Locs) (h : Hp) (Q : V → Hp → Prop) (X : Nat → Hp → Prop) : wpE g C N loc (.comp n cap t k src conds elt) h Q X = (wpE g C N loc src h (fun v h1 => onSome (itop k v h1) fun p => onSome (capL cap loc (List.replicate n none)) fun l0 =>
      compWp p.2 (fun x l h2 K => onSome (bindT t x l) fun l1 => wpC g C N l1 conds h2 (fun b h3 => match b with
        | true => wpE g C N l1 elt h3 (fun y h4 => K l1 [y] h4) X
        | false => K l1 [] h3) X) p.1 l0 [] h1 (fun ys h5 => Q (.ref h5.length) (h5 ++ [.list ys]))) X
) := rfl
theorem wEs_nil (loc : Locs) (h : Hp) (Q : List V → Hp → Prop) (X : Nat → Hp → Prop) : wpEs g C N loc [] h Q X = Q [] h := rfl
theorem wEs_cons (e : E) (es : List E) (loc : Locs) (h : Hp) (Q : List V → Hp → Prop) (X : Nat → Hp → Prop) : wpEs g C N loc (e :: es) h Q X = wpE g C N loc e h (fun v h1 => wpEs g C N loc es h1 (fun vs h2 => Q (v :: vs) h2) X) X := rfl
theorem wC_nil (loc : Locs) (h : Hp) (Q : Bool → Hp → Prop) (X : Nat → Hp → Prop) : wpC g C N loc [] h Q X = Q true h := rfl
theorem wC_cons (e : E) (es : List E) (loc : Locs) (h : Hp) (Q : Bool → Hp → Prop) (X : Nat → Hp → Prop) : wpC g C N loc (e :: es) h Q X = wpE g C N loc e h (fun v h1 => onSome (isB v) fun r => match r with | true => wpC g C N loc es h1 Q X | false => Q false h1) X := rfl
theorem wT_loc (i : Nat) (σ : St) (v : V) (KN : St → Prop) (X : Nat → Hp → Prop) : wpTg g C N σ v KN X (.loc i) = (i < σ.loc.length ∧ KN ⟨σ.loc.set i (some v), σ.hp⟩) := rfl
theorem wT_attr (a : E) (f : Nat) (σ : St) (v : V) (KN : St → Prop) (X : Nat → Hp → Prop) : wpTg g C N σ v KN X (.attr a f) = (wpE g C N σ.loc a σ.hp (fun va h => match va with
      | .ref x => match h[x]? with
        | some (.inst c fs) => g.at_ c f = true ∧ fs.length < 400 ∧ KN ⟨σ.loc, h.set x (.inst c (putK fs f v))⟩
        | _ => False
      | _ => False) X) := rfl
theorem wT_idx (a i : E) (σ : St) (v : V) (KN : St → Prop) (X : Nat → Hp → Prop) : wpTg g C N σ v KN X (.idx a i) = (wpE g C N σ.loc a σ.hp (fun va h => wpE g C N σ.loc i h (fun vi h2 => onSome va.asRef fun x => onSome ((h2[x]?).bind fun o => setO o vi v) fun o' => KN ⟨σ.loc, h2.set x o'⟩) X) X) := rfl
theorem wT_unp (is : List Nat) (σ : St) (v : V) (KN : St → Prop) (X : Nat → Hp → Prop) : wpTg g C N σ v KN X (.unp is) = (match v with
      | .tup vs => onSome (bindAll is vs σ.loc) fun l => KN ⟨l, σ.hp⟩
      | _ => False

) := rfl
theorem wS_skip  (σ : St) (KN : St → Prop) (KR : V → Hp → Prop) (X : Nat → Hp → Prop) : wpS g C N (.skip ) σ KN KR X = (KN σ) := rfl
theorem wS_seq (a b : S) (σ : St) (KN : St → Prop) (KR : V → Hp → Prop) (X : Nat → Hp → Prop) : wpS g C N (.seq a b) σ KN KR X = (wpS g C N a σ (fun σ' => wpS g C N b σ' KN KR X) KR X) := rfl
theorem wS_expr (e : E) (σ : St) (KN : St → Prop) (KR : V → Hp → Prop) (X : Nat → Hp → Prop) : wpS g C N (.expr e) σ KN KR X = (wpE g C N σ.loc e σ.hp (fun _ h => KN ⟨σ.loc, h⟩) X) := rfl
theorem wS_asg (t : Tg) (e : E) (σ : St) (KN : St → Prop) (KR : V → Hp → Prop) (X : Nat → Hp → Prop) : wpS g C N (.asg t e) σ KN KR X = (wpE g C N σ.loc e σ.hp (fun v h => wpTg g C N ⟨σ.loc, h⟩ v KN X t) X) := rfl
theorem wS_if_ (c : E) (a b : S) (σ : St) (KN : St → Prop) (KR : V → Hp → Prop) (X : Nat → Hp → Prop) : wpS g C N (.if_ c a b) σ KN KR X = (wpE g C N σ.loc c σ.hp (fun v h => onSome (isB v) fun r => match r with
      | true => wpS g C N a ⟨σ.loc, h⟩ KN KR X
      | false => wpS g C N b ⟨σ.loc, h⟩ KN KR X) X) := rfl
theorem wS_while_ (c : E) (b : S) (σ : St) (KN : St → Prop) (KR : V → Hp → Prop) (X : Nat → Hp → Prop) : wpS g C N (.while_ c b) σ KN KR X = (∀ P : St → Prop, (∀ σ, wpE g C N σ.loc c σ.hp (fun v h => onSome (isB v) fun r => match r with
      | true => wpS g C N b ⟨σ.loc, h⟩ P KR X
      | false => KN ⟨σ.loc, h⟩) X → P σ) → P σ) := rfl
theorem wS_for_ (t : List Nat) (k : ItK) (src : E) (b : S) (σ : St) (KN : St → Prop) (KR : V → Hp → Prop) (X : Nat → Hp → Prop) : wpS g C N (.for_ t k src b) σ KN KR X = (wpE g C N σ.loc src σ.hp (fun v h => onSome (itop k v h) fun p =>
      forWp p.2 (fun x σ K => onSome (bindT t x σ.loc) fun l => wpS g C N b ⟨l, σ.hp⟩ K KR X) p.1 ⟨σ.loc, h⟩ KN) X) := rfl
theorem wS_ret (e : E) (σ : St) (KN : St → Prop) (KR : V → Hp → Prop) (X : Nat → Hp → Prop) : wpS g C N (.ret e) σ KN KR X = (wpE g C N σ.loc e σ.hp KR X) := rfl
theorem wS_raise (c : Nat) (σ : St) (KN : St → Prop) (KR : V → Hp → Prop) (X : Nat → Hp → Prop) : wpS g C N (.raise c) σ KN KR X = (X c σ.hp) := rfl
end

theorem bind_some {α β : Type} {o : Option α} {f : α → Option β} {b : β} (h : o.bind f = some b) : ∃ a, o = some a ∧ f a = some b := Option.bind_eq_some_iff.mp h
theorem map_some' {α β : Type} {o : Option α} {f : α → β} {b : β} (h : o.map f = some b) : ∃ a, o = some a ∧ f a = b := Option.map_eq_some_iff.mp h
theorem if_some {α : Type} {p : Prop} [Decidable p] {a : Option α} {b : α} (h : (if p then a else none) = some b) : p ∧ a = some b := by
  by_cases q : p
  · rw [if_pos q] at h; exact ⟨q, h⟩
  · rw [if_neg q] at h; cases h
theorem asInt_some {v : V} {i : Int} (h : v.asInt = some i) : v = .int i := by cases v <;> cases h; rfl
theorem asStr_some {v : V} {i : Nat} (h : v.asStr = some i) : v = .str i := by cases v <;> cases h; rfl
theorem asTup_some {v : V} {i : List V} (h : v.asTup = some i) : v = .tup i := by cases v <;> cases h; rfl
theorem asRef_some {v : V} {i : Nat} (h : v.asRef = some i) : v = .ref i := by cases v <;> cases h; rfl
theorem asBool_some {v : V} {i : Bool} (h : v.asBool = some i) : v = .bool i := by cases v <;> cases h; rfl
theorem asL_some {o : O} {xs : List V} (h : o.asL = some xs) : o = .list xs := by cases o <;> cases h; rfl
theorem asD_some {o : O} {xs : List (Nat × V)} (h : o.asD = some xs) : o = .dict xs := by cases o <;> cases h; rfl
theorem isNil_true {v : V} (h : isNil v = true) : v = .none := by cases v <;> cases h; rfl
theorem arg1_some {vs : List V} {v : V} (h : arg1 vs = some v) : vs = [v] := by
  cases vs with
  | nil => cases h
  | cons a r => cases r with
    | nil => cases h; rfl
    | cons _ _ => cases h
theorem arg2_some {vs : List V} {v : V × V} (h : arg2 vs = some v) : vs = [v.1, v.2] := by
  cases vs with
  | nil => cases h
  | cons a r => cases r with
    | nil => cases h
    | cons b r => cases r with
      | nil => cases h; rfl
      | cons _ _ => cases h
theorem lstOf_some {v : V} {h : Hp} {xs : List V} (e : lstOf v h = some xs) : ∃ a, v = .ref a ∧ h[a]? = some (.list xs) := by
  obtain ⟨a, e1, e⟩ := bind_some e
  obtain ⟨o, e2, e3⟩ := bind_some e
  exact ⟨a, asRef_some e1, by rw [e2, asL_some e3]⟩
theorem itmOf_some {v : V} {h : Hp} {xs : List V} (e : itmOf v h = some xs) : ∃ a o, v = .ref a ∧ h[a]? = some o ∧ o.items = some xs := by
  obtain ⟨a, e1, e⟩ := bind_some e
  obtain ⟨o, e2, e3⟩ := bind_some e
  exact ⟨a, o, asRef_some e1, e2, e3⟩

end Mine

end
noncomputable section
namespace Mine
open PySem PySem.W PyProof.Rows

abbrev AM := List (Addr × Addr)
noncomputable def AM.muts (am : AM) : List Addr := am.map (·.2)
noncomputable def AM.Le (am am' : AM) : Prop := ∀ (i : Nat) (p : Addr × Addr), am[i]? = some p → am'[i]? = some p

mutual
inductive RV (ws : List Str) (am : AM) (h : Heap) : V → Value → Prop
  | none : RV ws am h .none .none
  | bool (b : Bool) : RV ws am h (.bool b) (.bool b)
  | int (i : Int) (t : Tok) : RV ws am h (.int i) (.int i t)
  | str {w : Nat} {s : Str} (t : Tok) : ws[w]? = some s → RV ws am h (.str w) (.str s t)
  | tup {xs : List V} {a : Addr} {vs : List Value} : IsTup h a vs.toArray → RVs ws am h xs vs → xs.length ≤ lim → RV ws am h (.tup xs) (.ref a)
  | ref {a : Nat} {p : Addr × Addr} : am[a]? = some p → RV ws am h (.ref a) (.ref p.1)
inductive RVs (ws : List Str) (am : AM) (h : Heap) : List V → List Value → Prop
  | nil : RVs ws am h [] []
  | cons {x : V} {v : Value} {xs : List V} {vs : List Value} : RV ws am h x v → RVs ws am h xs vs → RVs ws am h (x :: xs) (v :: vs)
end

noncomputable def TupKept (h h' : Heap) : Prop := ∀ a items, IsTup h a items → IsTup h' a items
theorem TupKept.refl (h : Heap) : TupKept h h := fun _ _ x => x
theorem TupKept.trans {h1 h2 h3 : Heap} (x : TupKept h1 h2) (y : TupKept h2 h3) : TupKept h1 h3 := fun a i t => y a i (x a i t)

theorem RV.mono {ws : List Str} {am am' : AM} {h h' : Heap} (ht : TupKept h h') (hp : AM.Le am am') {v : V} {x : Value} (r : RV ws am h v x) : RV ws am' h' v x :=
  RV.rec (motive_1 := fun v x _ => RV ws am' h' v x) (motive_2 := fun v x _ => RVs ws am' h' v x) .none (fun b => .bool b) (fun i t => .int i t) (fun t e => .str t e) (fun i _ l ih => .tup (ht _ _ i) ih l) (fun e => .ref (hp _ _ e)) .nil (fun _ _ ia ir => .cons ia ir) r
theorem RVs.mono {ws : List Str} {am am' : AM} {h h' : Heap} (ht : TupKept h h') (hp : AM.Le am am') {v : List V} {x : List Value} (r : RVs ws am h v x) : RVs ws am' h' v x := by
  induction v generalizing x with
  | nil => cases r; exact .nil
  | cons y v ih => cases r with
    | cons a r => exact .cons (a.mono ht hp) (ih r)

theorem RVs.length {ws : List Str} {am : AM} {h : Heap} {xs : List V} {vs : List Value} (r : RVs ws am h xs vs) : xs.length = vs.length := by
  induction xs generalizing vs with
  | nil => cases r; rfl
  | cons y xs ih => cases r with
    | cons a r => exact congrArg Nat.succ (ih r)
theorem RVs.append {ws : List Str} {am : AM} {h : Heap} {xs ys : List V} {vs us : List Value} (r : RVs ws am h xs vs) (q : RVs ws am h ys us) : RVs ws am h (xs ++ ys) (vs ++ us) := by
  induction xs generalizing vs with
  | nil => cases r; exact q
  | cons y xs ih => cases r with
    | cons a r => exact .cons a (ih r)
theorem RVs.get {ws : List Str} {am : AM} {h : Heap} {xs : List V} {vs : List Value} (r : RVs ws am h xs vs) {i : Nat} {x : V} (e : xs[i]? = some x) : ∃ v, vs[i]? = some v ∧ RV ws am h x v := by
  induction xs generalizing vs i with
  | nil => cases r; cases e
  | cons y xs ih => cases r with
    | cons a r => cases i with
      | zero => cases e; exact ⟨_, rfl, a⟩
      | succ i => exact ih r e
theorem RVs.set {ws : List Str} {am : AM} {h : Heap} {x : V} {v : Value} (q : RV ws am h x v) {xs : List V} {vs : List Value} (r : RVs ws am h xs vs) (i : Nat) : RVs ws am h (xs.set i x) (vs.set i v) := by
  induction xs generalizing vs i with
  | nil => cases r; exact .nil
  | cons y xs ih => cases r with
    | cons a r => cases i with
      | zero => exact .cons q r
      | succ i => exact .cons a (ih r i)
theorem RVs.take {ws : List Str} {am : AM} {h : Heap} {xs : List V} {vs : List Value} (r : RVs ws am h xs vs) (n : Nat) : RVs ws am h (xs.take n) (vs.take n) := by
  induction xs generalizing vs n with
  | nil => cases r; cases n <;> exact .nil
  | cons y xs ih => cases r with
    | cons a r => cases n with
      | zero => exact .nil
      | succ n => exact .cons a (ih r n)
theorem RVs.drop {ws : List Str} {am : AM} {h : Heap} {xs : List V} {vs : List Value} (r : RVs ws am h xs vs) (n : Nat) : RVs ws am h (xs.drop n) (vs.drop n) := by
  induction xs generalizing vs n with
  | nil => cases r; cases n <;> exact .nil
  | cons y xs ih => cases r with
    | cons a r => cases n with
      | zero => exact .cons a r
      | succ n => exact ih r n

structure Glb where
  prog : Program
  w : World
  K : Frag
  base : Heap
  ws : List Str
  cls : Nat → Option Addr
  fnA : Nat → Option Addr
  at_ : Nat → Nat → Bool
  gens : Array GenState
  os : OsState

inductive RE (G : Glb) (am : AM) (h : Heap) : List (Nat × V) → List DictEntry → Prop
  | nil : RE G am h [] []
  | cons {k : Nat} {s : Str} {t : Tok} {v : V} {x : Value} {fs : List (Nat × V)} {es : List DictEntry} : G.ws[k]? = some s → RV G.ws am h v x → RE G am h fs es → RE G am h ((k, v) :: fs) (⟨PyData.keyHash G.w.params s, .str s t, x⟩ :: es)

theorem RE.mono {G : Glb} {am am' : AM} {h h' : Heap} (ht : TupKept h h') (hp : AM.Le am am') {fs : List (Nat × V)} {es : List DictEntry} (x : RE G am h fs es) : RE G am' h' fs es := by
  induction x with
  | nil => exact .nil
  | cons a b r ih => exact .cons a (b.mono ht hp) ih

abbrev listObj (vs : List Value) (n : Nat) : Obj := { cls := .type "list", data := .seq vs.toArray n }

inductive RO (G : Glb) (am : AM) (h : Heap) : O → Addr × Addr → Prop
  | list {xs : List V} {x : Addr} {vs : List Value} {n : Nat} : h.get? x = some (listObj vs n) → RVs G.ws am h xs vs → xs.length ≤ lim → G.base.get? x = none → RO G am h (.list xs) (x, x)
  | flist {xs : List V} {x : Addr} {vs : List Value} : G.base.IsList x vs.toArray → RVs G.ws am h xs vs → xs.length ≤ lim → RO G am h (.flist xs) (x, x)
  | inst {c : Nat} {C x dx : Addr} {fs : List (Nat × V)} {es : List DictEntry} {n : Nat} : G.cls c = some C → h.get? x = some (instObj C dx) → h.get? dx = some (dictOf es n) → RE G am h fs es → fs.length ≤ 500 →
      G.base.get? x = none → G.base.get? dx = none → (∀ p ∈ fs, G.at_ c p.1 = true) → RO G am h (.inst c fs) (x, dx)
  | dict {x : Addr} {fs : List (Nat × V)} {es : List DictEntry} {n : Nat} : h.get? x = some (dictOf es n) → RE G am h fs es → fs.length ≤ 500 → G.base.get? x = none → (fs.map (·.1)).Nodup → RO G am h (.dict fs) (x, x)

structure HR (G : Glb) (am : AM) (h : Heap) (hp : Hp) : Prop where
  len : am.length = hp.length
  nodup : am.muts.Nodup
  objs : ∀ (i : Nat) (o : O) (p : Addr × Addr), hp[i]? = some o → am[i]? = some p → RO G am h o p
  base : ∀ b o, G.base.get? b = some o → h.get? b = some o

structure Aft (own : List Addr) (h : Heap) (am : AM) (h' : Heap) (am' : AM) : Prop where
  keep : ∀ b o, h.get? b = some o → b ∉ own → b ∉ am.muts → h'.get? b = some o
  tup : TupKept h h'
  ext : ∃ l, am' = am ++ l ∧ ∀ p ∈ l, h.get? p.1 = none ∧ h.get? p.2 = none
  live : ∀ b, (h.get? b).isSome = true → (h'.get? b).isSome = true

theorem Aft.refl (own : List Addr) (h : Heap) (am : AM) : Aft own h am h am := ⟨fun _ _ e _ _ => e, .refl h, ⟨[], by simp, by simp⟩, fun _ e => e⟩
theorem Aft.map {own : List Addr} {h h' : Heap} {am am' : AM} (x : Aft own h am h' am') : AM.Le am am' := by
  obtain ⟨l, rfl, _⟩ := x.ext
  intro i p e
  rw [List.getElem?_append_left (by obtain ⟨q, _⟩ := List.getElem?_eq_some_iff.mp e; exact q)]; exact e
theorem Aft.rv {own : List Addr} {h h' : Heap} {am am' : AM} {ws : List Str} {v : V} {x : Value} (a : Aft own h am h' am') (r : RV ws am h v x) : RV ws am' h' v x := r.mono a.tup a.map
theorem Aft.rvs {own : List Addr} {h h' : Heap} {am am' : AM} {ws : List Str} {v : List V} {x : List Value} (a : Aft own h am h' am') (r : RVs ws am h v x) : RVs ws am' h' v x := r.mono a.tup a.map

theorem Aft.trans {own : List Addr} {h1 h2 h3 : Heap} {am1 am2 am3 : AM} (x : Aft own h1 am1 h2 am2) (y : Aft own h2 am2 h3 am3) : Aft own h1 am1 h3 am3 := by
  obtain ⟨l1, rfl, f1⟩ := x.ext
  obtain ⟨l2, rfl, f2⟩ := y.ext
  refine ⟨fun b o e n1 n2 => y.keep b o (x.keep b o e n1 n2) n1 ?_, x.tup.trans y.tup, ⟨l1 ++ l2, by simp, ?_⟩, fun b e => y.live b (x.live b e)⟩
  · intro hm'
    simp only [AM.muts, List.map_append, List.mem_append] at hm'
    rcases hm' with q | q
    · exact n2 q
    · obtain ⟨p, hp, rfl⟩ := List.mem_map.mp q
      rw [(f1 p hp).2] at e; cases e
  · intro p hp
    rcases List.mem_append.mp hp with q | q
    · exact f1 p q
    · have z := f2 p q
      refine ⟨?_, ?_⟩
      · cases c : h1.get? p.1 with
        | none => rfl
        | some o => have := x.live p.1 (by rw [c]; rfl); rw [z.1] at this; cases this
      · cases c : h1.get? p.2 with
        | none => rfl
        | some o => have := x.live p.2 (by rw [c]; rfl); rw [z.2] at this; cases this

end Mine

end
noncomputable section
namespace Mine
open PySem PySem.W PyProof.Rows

structure EnvOk (env : Env) (names : List (Str × NameKind)) : Prop where
  kind : env.scope.kind = .function
  glob : env.globals = mainGlobals
  bi : env.builtins = builtinsNs
  kinds : ∀ (i : Nat) (x : Str) (k : NameKind), names[i]? = some (x, k) → env.kindOf x = some k ∧ (k = .local ∨ k = .cell ∨ k = .free) ∧ (x == ("__debug__" : Str)) = false ∧ (x == ("__classdict__" : Str)) = false
  nodup : (names.map (·.1)).Nodup

noncomputable def BindAt (env : Env) (h : Heap) (m : Str → Option Value) (x : Str) (k : NameKind) (v : Value) : Prop := match k with
  | .local => m x = some v
  | .cell => ∃ c, env.cells.lookup x = some c ∧ h.IsCell c (some v)
  | .free => ∃ c, env.cells.lookup x = some c ∧ h.IsCell c (some v)
  | _ => False

noncomputable def LocR (G : Glb) (env : Env) (names : List (Str × NameKind)) (am : AM) (h : Heap) (m : Str → Option Value) (loc : Locs) : Prop :=
  ∀ (i : Nat) (v : V), Mine.getL loc i = some v → ∃ x k val, names[i]? = some (x, k) ∧ RV G.ws am h v val ∧ BindAt env h m x k val

noncomputable def ownA (env : Env) : List Addr := env.locals :: env.cells.map (·.2)

structure Same (G : Glb) (s : Shared) : Prop where
  gens : s.gens = G.gens
  os : s.os = G.os

structure Rel (G : Glb) (env : Env) (names : List (Str × NameKind)) (s : Shared) (am : AM) (loc : Locs) (hp : Hp) : Prop where
  hr : HR G am s.heap hp
  fr : ∃ m, Fr G.base env.locals s.heap m ∧ LocR G env names am s.heap m loc
  own : ∀ b ∈ ownA env, b ∉ am.muts ∧ G.base.get? b = none
  cells : ∀ x, (x, NameKind.cell) ∈ names → ∃ c v, env.cells.lookup x = some c ∧ s.heap.IsCell c v
  apart : env.cells.Pairwise fun x y => x.2 ≠ y.2
  apartL : ∀ c ∈ env.cells, c.2 ≠ env.locals ∧ (s.heap.get? c.2).isSome = true
  len : loc.length = names.length
  same : Same G s

structure RoomC (X : Nat → Hp → Prop) (A : Around) (r : Nat) : Prop where
  depth : A.depth + r + 101 ≤ recursionLimit
  units : A.units + 10 * r + 300 ≤ cLine
  handled : A.handled = none
  some_ : ∃ l, A.frames = some l
  noX : ∀ c h, ¬ X c h
structure Room (X : Nat → Hp → Prop) (A : Around) (r : Nat) : Prop where
  depth : A.depth + r + 101 ≤ recursionLimit
  units : A.units + 10 * r + 300 ≤ cLine
  handled : A.handled = none
  frames : ∃ (env : Env) (l : List Env), A.frames = some (env :: l) ∧ env.scope.isGenerator = false ∧ env.scope.isCoroutine = false ∧ env.builtins = builtinsNs ∧ env.globals = mainGlobals
  noX : ∀ c h, ¬ X c h
theorem Room.c {X : Nat → Hp → Prop} {A : Around} {r : Nat} (x : Room X A r) : RoomC X A r := ⟨x.depth, x.units, x.handled, by obtain ⟨e, l, h, _⟩ := x.frames; exact ⟨_, h⟩, x.noX⟩

noncomputable def RX (_G : Glb) (_h : Heap) (_c : Nat) (_e : Value) : Prop := False

noncomputable def EvP (G : Glb) (s : Shared) (am : AM) (Q : V → Hp → Prop) (val : Value) (s' : Shared) : Prop :=
  ∃ v hp' am', Q v hp' ∧ RV G.ws am' s'.heap v val ∧ HR G am' s'.heap hp' ∧ Aft [] s.heap am s'.heap am' ∧ Same G s'
noncomputable def EvPs (G : Glb) (s : Shared) (am : AM) (Q : List V → Hp → Prop) (vals : List Value) (s' : Shared) : Prop :=
  ∃ vs hp' am', Q vs hp' ∧ RVs G.ws am' s'.heap vs vals ∧ HR G am' s'.heap hp' ∧ Aft [] s.heap am s'.heap am' ∧ Same G s'
noncomputable def EvPb (G : Glb) (s : Shared) (am : AM) (Q : Bool → Hp → Prop) (b : Bool) (s' : Shared) : Prop :=
  ∃ hp' am', Q b hp' ∧ HR G am' s'.heap hp' ∧ Aft [] s.heap am s'.heap am' ∧ Same G s'
noncomputable def XP (G : Glb) (own : List Addr) (s : Shared) (am : AM) (X : Nat → Hp → Prop) (e : Value) (s' : Shared) : Prop :=
  ∃ c hp' am', X c hp' ∧ RX G s'.heap c e ∧ HR G am' s'.heap hp' ∧ Aft own s.heap am s'.heap am' ∧ Same G s'

theorem XP.back {G : Glb} {own : List Addr} {s s1 : Shared} {am am1 : AM} {X : Nat → Hp → Prop} (a : Aft own s.heap am s1.heap am1) {e : Value} {s' : Shared} (x : XP G own s1 am1 X e s') : XP G own s am X e s' := by
  obtain ⟨c, hp', am', h1, h2, h3, h4, h5⟩ := x
  exact ⟨c, hp', am', h1, h2, h3, a.trans h4, h5⟩
theorem EvP.back {G : Glb} {s s1 : Shared} {am am1 : AM} {Q : V → Hp → Prop} (a : Aft [] s.heap am s1.heap am1) {v : Value} {s' : Shared} (x : EvP G s1 am1 Q v s') : EvP G s am Q v s' := by
  obtain ⟨c, hp', am', h1, h2, h3, h4, h5⟩ := x
  exact ⟨c, hp', am', h1, h2, h3, a.trans h4, h5⟩

theorem Aft.toks {own : List Addr} {h h' : Heap} {am am' : AM} (a : Aft own h am h' am') : Aft own h am h' am' := a

theorem Rel.step {G : Glb} {env : Env} {names : List (Str × NameKind)} {s s' : Shared} {am am' : AM} {loc : Locs} {hp hp' : Hp} (R : Rel G env names s am loc hp)
    (a : Aft [] s.heap am s'.heap am') (hr : HR G am' s'.heap hp') (sm : Same G s') : Rel G env names s' am' loc hp' := by
  obtain ⟨m, F, lr⟩ := R.fr
  have kp : ∀ b ∈ ownA env, ∀ o, s.heap.get? b = some o → s'.heap.get? b = some o := fun b hb o e => a.keep b o e (by simp) (R.own b hb).1
  have cl : ∀ c x v, env.cells.lookup x = some c → s.heap.IsCell c v → s'.heap.IsCell c v := fun c x v hl ⟨o, ho, hd⟩ =>
    ⟨o, kp c (by simp only [ownA, List.mem_cons, List.mem_map]; exact .inr ⟨(x, c), mem_of_lookup hl, rfl⟩) o ho, hd⟩
  refine ⟨hr, ⟨m, ⟨?_, hr.base, F.above⟩, ?_⟩, ?_, ?_, R.apart, ?_, R.len, sm⟩
  · obtain ⟨o, es, ep, ho, r⟩ := F.ns
    exact ⟨o, es, ep, kp env.locals (by simp [ownA]) o ho, r⟩
  · intro i v e
    obtain ⟨x, k, val, h1, h2, h3⟩ := lr i v e
    refine ⟨x, k, val, h1, a.rv h2, ?_⟩
    cases k <;> simp only [BindAt] at h3 ⊢
    · exact h3
    · obtain ⟨c, h4, h5⟩ := h3; exact ⟨c, h4, cl c x _ h4 h5⟩
    · obtain ⟨c, h4, h5⟩ := h3; exact ⟨c, h4, cl c x _ h4 h5⟩
  · intro b hb
    refine ⟨?_, (R.own b hb).2⟩
    obtain ⟨l, rfl, f⟩ := a.ext
    simp only [AM.muts, List.map_append, List.mem_append, not_or]
    refine ⟨(R.own b hb).1, fun q => ?_⟩
    obtain ⟨p, hp, rfl⟩ := List.mem_map.mp q
    have z := (f p hp).2
    have live : (s.heap.get? p.2).isSome = true := by
      simp only [ownA, List.mem_cons, List.mem_map] at hb
      rcases hb with e | ⟨c, hc, e⟩
      · obtain ⟨o, es, ep, ho, r⟩ := F.ns; rw [e, ho]; rfl
      · rw [← e]; exact (R.apartL c hc).2
    rw [z] at live; cases live
  · intro x hx
    obtain ⟨c, v, h1, h2⟩ := R.cells x hx
    exact ⟨c, v, h1, cl c x v h1 h2⟩
  · intro c hc
    exact ⟨(R.apartL c hc).1, a.live _ (R.apartL c hc).2⟩

theorem Rel.size {G : Glb} {env : Env} {names : List (Str × NameKind)} {s : Shared} {am : AM} {loc : Locs} {hp : Hp} (R : Rel G env names s am loc hp) : G.base.objs.size ≤ s.heap.objs.size := by
  obtain ⟨m, F, _⟩ := R.fr
  obtain ⟨o, _, _, ho, _⟩ := F.ns
  exact Nat.le_of_lt (Nat.lt_of_le_of_lt F.above (Heap.lt_size ho))

section
variable (G : Glb) (g : Genv) (C N : Oracle) (env : Env) (names : List (Str × NameKind)) (r : Nat)

noncomputable def Snd (e : PySem.Expr) (i : Mine.E) : Prop := ∀ (loc : Locs) (hp : Hp) (Q : V → Hp → Prop) (X : Nat → Hp → Prop) (A : Around) (s : Shared) (am : AM),
  wpE g C N loc i hp Q X → Room X A r → Rel G env names s am loc hp → wpAny (model G.prog G.w) A (eval e env) (EvP G s am Q) (XP G [] s am X) s
noncomputable def SndT (e : PySem.Expr) (i : Mine.E) : Prop := ∀ (loc : Locs) (hp : Hp) (Q : Bool → Hp → Prop) (X : Nat → Hp → Prop) (A : Around) (s : Shared) (am : AM) (whole : Sem Value),
  wpE g C N loc i hp (fun v h => onSome (isB v) fun b => Q b h) X → Room X A r → Rel G env names s am loc hp → whole = eval e env → wpAny (model G.prog G.w) A (isTrue e env whole) (EvPb G s am Q) (XP G [] s am X) s
end

section
variable {G : Glb} {g : Genv} {C N : Oracle} {env : Env} {names : List (Str × NameKind)} {r : Nat}

theorem HR.toks {am : AM} {h : Heap} {hp : Hp} (x : HR G am h hp) : HR G am h hp := x
theorem evp_here {s s' : Shared} {am : AM} {Q : V → Hp → Prop} {v : V} {val : Value} {hp : Hp} (q : Q v hp) (rv : RV G.ws am s'.heap v val) (hr : HR G am s'.heap hp) (e : s'.heap = s.heap) (sm : Same G s') : EvP G s am Q val s' :=
  ⟨v, hp, am, q, rv, hr, e ▸ Aft.refl _ _ _, sm⟩

theorem snd_none (k : Nat) (p : Pos) : Snd G g C N env names r (.Constant .none k p) .none := fun loc hp Q X A s am h _ R =>
  wpAny_Constant_none (evp_here (v := .none) (h) .none R.hr rfl R.same)
theorem snd_bool (b : Bool) (k : Nat) (p : Pos) : Snd G g C N env names r (.Constant (.bool b) k p) (.bool b) := fun loc hp Q X A s am h _ R =>
  wpAny_Constant_bool (evp_here (v := .bool b) (h) (.bool b) R.hr rfl R.same)
theorem snd_int (i : Int) (k : Nat) (p : Pos) : Snd G g C N env names r (.Constant (.int i) k p) (.int i) := fun loc hp Q X A s am h _ R =>
  wpAny_Constant_int (evp_here (v := .int i) (h) (.int i _) R.hr rfl ⟨R.same.gens, R.same.os⟩)
theorem snd_str {x : Str} {w : Nat} (hw : G.ws[w]? = some x) (k : Nat) (p : Pos) : Snd G g C N env names r (.Constant (.str x) k p) (.str w) := fun loc hp Q X A s am h _ R =>
  wpAny_Constant_str (evp_here (v := .str w) (h) (.str _ hw) R.hr rfl ⟨R.same.gens, R.same.os⟩)

theorem snd_loc (O : EnvOk env names) {x : Str} {i : Nat} {k : NameKind} (hx : names[i]? = some (x, k)) (p : Pos) : Snd G g C N env names r (.Name x p) (.loc i) := fun loc hp Q X A s am h _ R => by
  dsimp only [wE_none, wE_bool, wE_int, wE_str, wE_loc, wE_glob, wE_bin, wE_not_, wE_cmp, wE_cmp2, wE_and_, wE_or_, wE_ite, wE_tup, wE_lst, wE_dct, wE_idx, wE_slc, wE_attr, wE_call, wE_new, wE_meth, wE_bi, wE_isi, wE_comp] at h
  cases hg : Mine.getL loc i with
  | none => rw [hg] at h; exact h.elim
  | some v =>
    rw [hg, onSome_some] at h
    obtain ⟨m, F, lr⟩ := R.fr
    obtain ⟨x', k', val, h1, h2, h3⟩ := lr i v hg
    rw [hx] at h1
    obtain ⟨rfl, rfl⟩ := Prod.mk.inj (Option.some.inj h1)
    obtain ⟨o1, o2, o3, o4⟩ := O.kinds i x k hx
    refine wpAny_Name ?_ o3
    have fin : EvP G s am Q val s := evp_here h h2 R.hr rfl R.same
    rcases o2 with rfl | rfl | rfl <;> simp only [BindAt] at h3
    · exact wpAny_loadName_local O.kind o1 F.ns h3 fin
    · obtain ⟨c, h4, h5⟩ := h3; exact wpAny_loadName_cell O.kind o1 h4 h5 fin
    · obtain ⟨c, h4, h5⟩ := h3; exact wpAny_loadName_free O.kind o1 h4 h5 fin o4

theorem ev_two {e1 e2 : PySem.Expr} {i1 i2 : Mine.E} (h1 : Snd G g C N env names r e1 i1) (h2 : Snd G g C N env names r e2 i2) {loc : Locs} {hp : Hp} {K : V → Hp → V → Hp → Prop} {X : Nat → Hp → Prop} {A : Around} {s : Shared} {am : AM}
    {T : Value → Value → Shared → Prop}
    (h : wpE g C N loc i1 hp (fun a p1 => wpE g C N loc i2 p1 (fun b p2 => K a p1 b p2) X) X) (rm : Room X A r) (R : Rel G env names s am loc hp)
    (fin : ∀ a b p1 p2 va vb s2 am2, K a p1 b p2 → RV G.ws am2 s2.heap a va → RV G.ws am2 s2.heap b vb → Rel G env names s2 am2 loc p2 → Aft [] s.heap am s2.heap am2 → T va vb s2) :
    wpAny (model G.prog G.w) A (eval e1 env) (fun va s1 => wpAny (model G.prog G.w) A (eval e2 env) (fun vb s2 => T va vb s2) (XP G [] s am X) s1) (XP G [] s am X) s := by
  refine wpAny_mono (h1 loc hp _ X A s am h rm R) (fun va s1 q => ?_) fun _ _ x => x
  obtain ⟨a, p1, am1, q1, q2, q3, q4, q5⟩ := q
  have R1 := R.step q4 q3 q5
  refine wpAny_mono (h2 loc p1 _ X A s1 am1 q1 rm R1) (fun vb s2 z => ?_) fun _ _ x => x.back q4
  obtain ⟨b, p2, am2, z1, z2, z3, z4, z5⟩ := z
  exact fin a b p1 p2 va vb s2 am2 z1 (z4.rv q2) z2 (R1.step z4 z3 z5) (q4.trans z4)
end
end Mine

end
noncomputable section
namespace Mine
open PySem PySem.W PyProof.Rows

theorem get_none_of_size {h : Heap} : h.get? h.objs.size = none := by
  cases e : h.get? h.objs.size with
  | none => rfl
  | some o => exact absurd (Heap.lt_size e) (Nat.lt_irrefl _)
theorem get_none_of_size1 {h : Heap} : h.get? (h.objs.size + 1) = none := by
  cases e : h.get? (h.objs.size + 1) with
  | none => rfl
  | some o => exact absurd (Heap.lt_size e) (Nat.not_lt.mpr (Nat.le_succ _))

section
variable {G : Glb} {am am' : AM} {h h' : Heap} {hp : Hp}

theorem RO.mono {o : O} {p : Addr × Addr} (x : RO G am h o p) (ht : TupKept h h') (hl : AM.Le am am') (k1 : ∀ ob, h.get? p.1 = some ob → h'.get? p.1 = some ob) (k2 : ∀ ob, h.get? p.2 = some ob → h'.get? p.2 = some ob) : RO G am' h' o p := by
  cases x with
  | list a b c d => exact .list (k1 _ a) (b.mono ht hl) c d
  | flist a b c => exact .flist a (b.mono ht hl) c
  | inst a b c d e f i j => exact .inst a (k1 _ b) (k2 _ c) (d.mono ht hl) e f i j
  | dict a b c d e => exact .dict (k1 _ a) (b.mono ht hl) c d e

theorem HR.live (x : HR G am h hp) {p : Addr × Addr} (hm : p ∈ am) : (∃ o, h.get? p.1 = some o ∧ o.cls ≠ .type "tuple") ∧ (∃ o, h.get? p.2 = some o ∧ o.cls ≠ .type "tuple") := by
  obtain ⟨i, hi, e⟩ := List.getElem_of_mem hm
  obtain ⟨o, ho⟩ : ∃ o, hp[i]? = some o := ⟨_, List.getElem?_eq_getElem (x.len ▸ hi)⟩
  have := x.objs i o p ho (by rw [List.getElem?_eq_getElem hi, e])
  cases this with
  | list a b c d => exact ⟨⟨_, a, by simp⟩, ⟨_, a, by simp⟩⟩
  | flist a b c =>
    obtain ⟨o, ho, hc, _⟩ := a
    have := x.base _ _ ho
    exact ⟨⟨o, this, by rw [hc]; simp⟩, ⟨o, this, by rw [hc]; simp⟩⟩
  | inst a b c d e f i j => exact ⟨⟨_, b, by simp⟩, ⟨_, c, by simp⟩⟩
  | dict a b c d => exact ⟨⟨_, a, by simp⟩, ⟨_, a, by simp⟩⟩

theorem TupKept.push (o : Obj) : TupKept h (h.push o) := fun _ _ x => x.keeps fun _ _ e => Heap.get?_push_of_some _ e
theorem HR.keepAll (x : HR G am h hp) (k : ∀ b o, h.get? b = some o → h'.get? b = some o) : HR G am h' hp :=
  ⟨x.len, x.nodup, fun i o p h1 h2 => (x.objs i o p h1 h2).mono (fun _ _ t => t.keeps k) (fun _ _ e => e) (fun _ => k _ _) (fun _ => k _ _), fun b o e => k _ _ (x.base b o e)⟩
theorem Aft.ofKeep {own : List Addr} (k : ∀ b o, h.get? b = some o → h'.get? b = some o) : Aft own h am h' am :=
  ⟨fun b o e _ _ => k b o e, fun _ _ t => t.keeps k, ⟨[], by simp, by simp⟩, fun b e => by
    cases c : h.get? b with
    | none => rw [c] at e; cases e
    | some o => rw [k b o c]; rfl⟩
theorem keep_push (o : Obj) : ∀ b o', h.get? b = some o' → (h.push o).get? b = some o' := fun _ _ e => Heap.get?_push_of_some _ e

theorem HR.more (x : HR G am h hp) (k : ∀ b o, h.get? b = some o → h'.get? b = some o) {p : Addr × Addr} {o : O} (n2 : h.get? p.2 = none) (ro : RO G (am ++ [p]) h' o p) : HR G (am ++ [p]) h' (hp ++ [o]) := by
  have le : AM.Le am (am ++ [p]) := fun i q e => by rw [List.getElem?_append_left (by obtain ⟨z, _⟩ := List.getElem?_eq_some_iff.mp e; exact z)]; exact e
  refine ⟨by simp [x.len], ?_, ?_, fun b o e => k _ _ (x.base b o e)⟩
  · simp only [AM.muts, List.map_append, List.map_cons, List.map_nil]
    refine List.nodup_append.mpr ⟨x.nodup, by simp, ?_⟩
    intro a ha b hb
    simp only [List.mem_singleton] at hb
    subst hb
    rintro rfl
    obtain ⟨q, hq, e⟩ := List.mem_map.mp ha
    obtain ⟨-, ob, hb, -⟩ := x.live hq
    rw [e, n2] at hb; cases hb
  · intro i o' q h1 h2
    by_cases hi : i < am.length
    · rw [List.getElem?_append_left hi] at h2
      rw [List.getElem?_append_left (x.len ▸ hi)] at h1
      exact (x.objs i o' q h1 h2).mono (fun _ _ t => t.keeps k) le (fun _ => k _ _) (fun _ => k _ _)
    · have hi' : am.length ≤ i := Nat.le_of_not_lt hi
      rw [List.getElem?_append_right hi'] at h2
      rw [List.getElem?_append_right (x.len ▸ hi'), ← x.len] at h1
      cases hj : i - am.length with
      | zero => rw [hj] at h1 h2; simp at h1 h2; subst h1 h2; exact ro
      | succ j => rw [hj] at h1; simp at h1
theorem Aft.more {own : List Addr} (k : ∀ b o, h.get? b = some o → h'.get? b = some o) {p : Addr × Addr} (n1 : h.get? p.1 = none) (n2 : h.get? p.2 = none) : Aft own h am h' (am ++ [p]) :=
  ⟨fun b o e _ _ => k b o e, fun _ _ t => t.keeps k, ⟨[p], rfl, by intro q hq; simp only [List.mem_singleton] at hq; subst hq; exact ⟨n1, n2⟩⟩, fun b e => by
    cases c : h.get? b with
    | none => rw [c] at e; cases e
    | some o => rw [k b o c]; rfl⟩
theorem am_last (p : Addr × Addr) : (am ++ [p])[am.length]? = some p := by simp

theorem HR.turn (x : HR G am h hp) {i : Nat} {p : Addr × Addr} {o o' : O} (hi : hp[i]? = some o) (hp' : am[i]? = some p) (sb : Heap.SameBut p.2 h h') (ht : TupKept h h') (hbase : G.base.get? p.2 = none)
    (hx : ∀ q ∈ am, q.1 = p.2 → q.1 = q.2) (ro : RO G am h' o' p) : HR G am h' (hp.set i o') := by
  refine ⟨by simp [x.len], x.nodup, ?_, ?_⟩
  · intro j oj q h1 h2
    by_cases hj : i = j
    · subst hj
      rw [hp'] at h2; cases h2
      rw [List.getElem?_set_self (by obtain ⟨z, _⟩ := List.getElem?_eq_some_iff.mp hi; exact z)] at h1
      cases h1; exact ro
    · rw [List.getElem?_set_ne hj] at h1
      have ne2 : q.2 ≠ p.2 := fun e => hj (by
        have a1 : am.muts[i]? = some p.2 := by simp [AM.muts, hp']
        have a2 : am.muts[j]? = some p.2 := by simp [AM.muts, h2, e]
        exact (List.getElem?_inj (by obtain ⟨z, _⟩ := List.getElem?_eq_some_iff.mp a1; exact z) x.nodup).mp (a1.trans a2.symm))
      have ne1 : q.1 ≠ p.2 := fun e => ne2 (by rw [← hx q (List.mem_of_getElem? h2) e, e])
      exact (x.objs j oj q h1 h2).mono ht (fun _ _ e => e) (fun ob e => (sb.2 _ ne1).trans e) (fun ob e => (sb.2 _ ne2).trans e)
  · intro b o e
    have ne : b ≠ p.2 := fun q => by rw [q, hbase] at e; cases e
    rw [sb.2 b ne]; exact x.base b o e
theorem Aft.turn {own : List Addr} {p : Addr × Addr} (hm : p ∈ am) (sb : Heap.SameBut p.2 h h') (ht : TupKept h h') (lv : (h'.get? p.2).isSome = true) : Aft own h am h' am :=
  ⟨fun b o e _ n => by
    have ne : b ≠ p.2 := fun q => n (by rw [q]; exact List.mem_map_of_mem hm)
    rw [sb.2 b ne]; exact e, ht, ⟨[], by simp, by simp⟩, fun b e => by
    by_cases q : b = p.2
    · rw [q]; exact lv
    · rw [sb.2 b q]; exact e⟩
theorem TupKept.turn {a : Addr} (sb : Heap.SameBut a h h') {o : Obj} (ho : h.get? a = some o) (hc : o.cls ≠ .type "tuple") : TupKept h h' := by
  intro b items t
  obtain ⟨ob, hb, hcl, r⟩ := t
  have ne : b ≠ a := fun q => by rw [q, ho] at hb; cases hb; exact hc hcl
  exact ⟨ob, (sb.2 b ne).trans hb, hcl, r⟩

theorem HR.first (x : HR G am h hp) {a : Addr} {o : Obj} (ho : h.get? a = some o) (hd : ∀ C dx, o ≠ instObj C dx) : ∀ q ∈ am, q.1 = a → q.1 = q.2 := by
  intro q hm e
  obtain ⟨i, hi, eq⟩ := List.getElem_of_mem hm
  obtain ⟨o', ho'⟩ : ∃ o, hp[i]? = some o := ⟨_, List.getElem?_eq_getElem (x.len ▸ hi)⟩
  have := x.objs i o' q ho' (by rw [List.getElem?_eq_getElem hi, eq])
  cases this with
  | list a b c d => rfl
  | flist a b c => rfl
  | inst a' b c d e' f i j => dsimp only at e; rw [e, ho] at b; exact absurd (Option.some.inj b) (hd _ _)
  | dict a b c d => rfl
end
end Mine

end
noncomputable section
namespace Mine
open PySem PySem.W PyProof.Rows

structure GOk (G : Glb) : Prop where
  x : G.K.In G.base
  wsN : G.ws.Nodup
  wsOk : ∀ s ∈ G.ws, PyData.strOk s = true
  nolimit : G.base.NoLimit
  seer : G.base.NoSeer
  tree : G.prog.given.tree = none

mutual
noncomputable def toPy (ws : List Str) : D → PyData
  | .none => .none
  | .int i => .int i
  | .str w => .str (ws[w]?.getD Str.empty)
  | .tup xs => .tuple (toPys ws xs)
  | .list xs => .list (toPys ws xs)
noncomputable def toPys (ws : List Str) : List D → List PyData
  | [] => []
  | x :: xs => toPy ws x :: toPys ws xs
end

mutual
noncomputable def DW : D → Nat → Prop
  | .none, _ => False
  | .int _, _ => False
  | .str w, u => w = u
  | .tup xs, u => DWs xs u
  | .list xs, u => DWs xs u
noncomputable def DWs : List D → Nat → Prop
  | [], _ => False
  | x :: xs, u => DW x u ∨ DWs xs u
end

section
variable {G : Glb} {am : AM} {h : Heap} {hp : Hp}

theorem HR.items (x : HR G am h hp) {a : Nat} {o : O} {xs : List V} {p : Addr × Addr} (ho : hp[a]? = some o) (hi : o.items = some xs) (hm : am[a]? = some p) :
    ∃ vs n ob, h.get? p.1 = some ob ∧ ob.cls = .type "list" ∧ ob.data = .seq vs.toArray n ∧ RVs G.ws am h xs vs ∧ xs.length ≤ lim := by
  have := x.objs a o p ho hm
  cases this with
  | list a b c d => simp [O.items] at hi; subst hi; exact ⟨_, _, _, a, rfl, rfl, b, c⟩
  | flist a b c =>
    simp [O.items] at hi; subst hi
    obtain ⟨ob, h1, h2, n, h3⟩ := a
    exact ⟨_, n, ob, x.base _ _ h1, h2, h3, b, c⟩
  | inst => simp [O.items] at hi
  | dict => simp [O.items] at hi

theorem mapO_nil {α β : Type} {f : α → Option β} {ys : List β} (e : mapO f [] = some ys) : ys = [] := by simp [mapO] at e; exact e
theorem mapO_cons {α β : Type} {f : α → Option β} {x : α} {xs : List α} {ys : List β} (e : mapO f (x :: xs) = some ys) : ∃ y r, f x = some y ∧ mapO f xs = some r ∧ ys = y :: r := by
  simp only [mapO] at e
  split at e
  · rename_i y r h1 h2; exact ⟨y, r, h1, h2, (Option.some.inj e).symm⟩
  · cases e

theorem rd_reads (GO : GOk G) (x : HR G am h hp) : ∀ (n : Nat) (v : V) (d : D) (val : Value), rd n hp v = some d → RV G.ws am h v val → ∃ as, Reads h val (toPy G.ws d) as ∧ (toPy G.ws d).canLay0 = true ∧ (toPy G.ws d).depth ≤ n := by
  intro n
  induction n with
  | zero => intro v d val e; simp [rd] at e
  | succ n ih =>
    have all : ∀ (xs : List V) (vs : List Value) (ds : List D), RVs G.ws am h xs vs → mapO (rd n hp) xs = some ds → ∃ as, ReadsAll h vs (toPys G.ws ds) as ∧ PyData.canLayAll0 (toPys G.ws ds) = true ∧ PyData.depthAll (toPys G.ws ds) ≤ n := by
      intro xs
      induction xs with
      | nil => intro vs ds r e; cases r; rw [mapO_nil e]; exact ⟨_, .nil, by simp [toPys, PyData.canLayAll0], by simp [toPys, PyData.depthAll]⟩
      | cons y ys hi =>
        intro vs ds r e
        cases r with
        | cons r1 r2 =>
          obtain ⟨d, r, e1, e2, rfl⟩ := mapO_cons e
          obtain ⟨as, a1, a2, a3⟩ := ih y d _ e1 r1
          obtain ⟨bs, b1, b2, b3⟩ := hi _ r r2 e2
          refine ⟨_, by rw [toPys]; exact .cons a1 b1, ?_, ?_⟩
          · simp [toPys, PyData.canLayAll0, a2, b2]
          · simp only [toPys, PyData.depthAll]; (first | lia | omega)
    intro v d val e rv
    cases rv with
    | none => simp [rd] at e; subst e; exact ⟨_, by rw [toPy]; exact .none, by simp [toPy, PyData.canLay0], by simp [toPy, PyData.depth]⟩
    | bool b => simp [rd] at e
    | int i t => simp [rd] at e; subst e; exact ⟨_, by rw [toPy]; exact .int i t, by simp [toPy, PyData.canLay0], by simp [toPy, PyData.depth]⟩
    | str t hw =>
      simp [rd] at e; subst e
      refine ⟨_, by rw [toPy, hw]; exact .str _ t, ?_, by simp [toPy, PyData.depth]⟩
      simp only [toPy, hw, PyData.canLay0, Option.getD_some]
      exact GO.wsOk _ (List.mem_of_getElem? hw)
    | tup i r l =>
      simp only [rd, Option.map_eq_some_iff] at e
      obtain ⟨ds, e1, rfl⟩ := e
      obtain ⟨as, a1, a2, a3⟩ := all _ _ ds r e1
      obtain ⟨o, h1, h2, k, h3⟩ := i
      refine ⟨as, by rw [toPy]; exact reads_tuple_at h1 h2 h3 (by simpa using a1), by simp [toPy, PyData.canLay0, a2], by simp only [toPy, PyData.depth]; (first | lia | omega)⟩
    | ref hm =>
      rename_i a p
      simp only [rd] at e
      split at e
      · rename_i o ho
        split at e
        · rename_i xs hi
          simp only [Option.map_eq_some_iff] at e
          obtain ⟨ds, e1, rfl⟩ := e
          obtain ⟨vs, k, ob, h1, h2, h3, h4, -⟩ := x.items ho hi hm
          obtain ⟨as, a1, a2, a3⟩ := all _ _ ds h4 e1
          refine ⟨_, by rw [toPy]; exact reads_list_at h1 h2 h3 (by simpa using a1), by simp [toPy, PyData.canLay0, a2], by simp only [toPy, PyData.depth]; (first | lia | omega)⟩
        · cases e
      · cases e

mutual
theorem eqv_iff {ws : List Str} (hn : ws.Nodup) : ∀ (a b : D), (∀ w, DW a w → w < ws.length) → (∀ w, DW b w → w < ws.length) → (PyData.eqv (toPy ws a) (toPy ws b) = true ↔ a = b)
  | .none, b, _, _ => by cases b <;> simp [toPy, PyData.eqv]
  | .int i, b, _, _ => by cases b <;> simp [toPy, PyData.eqv]
  | .str w, b, ha, hb => by
    cases b <;> simp [toPy, PyData.eqv]
    rename_i w'
    have h1 := ha w (by simp [DW])
    have h2 := hb w' (by simp [DW])
    rw [List.getElem?_eq_getElem h1, List.getElem?_eq_getElem h2]
    simp only [Option.getD_some]
    constructor
    · intro e
      exact (List.getElem?_inj h1 hn).mp (by rw [List.getElem?_eq_getElem h1, List.getElem?_eq_getElem h2, e])
    · rintro rfl; rfl
  | .tup xs, b, ha, hb => by
    cases b <;> simp [toPy, PyData.eqv]
    rename_i ys
    exact eqvAll_iff hn xs ys (fun w q => ha w (by simpa [DW] using q)) (fun w q => hb w (by simpa [DW] using q))
  | .list xs, b, ha, hb => by
    cases b <;> simp [toPy, PyData.eqv]
    rename_i ys
    exact eqvAll_iff hn xs ys (fun w q => ha w (by simpa [DW] using q)) (fun w q => hb w (by simpa [DW] using q))
theorem eqvAll_iff {ws : List Str} (hn : ws.Nodup) : ∀ (xs ys : List D), (∀ w, DWs xs w → w < ws.length) → (∀ w, DWs ys w → w < ws.length) → (PyData.eqvAll (toPys ws xs) (toPys ws ys) = true ↔ xs = ys)
  | [], [], _, _ => by simp [toPys, PyData.eqvAll]
  | [], _ :: _, _, _ => by simp [toPys, PyData.eqvAll]
  | _ :: _, [], _, _ => by simp [toPys, PyData.eqvAll]
  | x :: xs, y :: ys, ha, hb => by
    simp only [toPys, PyData.eqvAll, Bool.and_eq_true, List.cons.injEq]
    rw [eqv_iff hn x y (fun w q => ha w (by simp [DWs, q])) (fun w q => hb w (by simp [DWs, q])), eqvAll_iff hn xs ys (fun w q => ha w (by simp [DWs, q])) (fun w q => hb w (by simp [DWs, q]))]
end
end
end Mine

end
noncomputable section
namespace Mine
open PySem PySem.W PyProof.Rows

section
variable {G : Glb} {am : AM} {h : Heap} {hp : Hp}

theorem rd_words (x : HR G am h hp) : ∀ (n : Nat) (v : V) (d : D) (val : Value), rd n hp v = some d → RV G.ws am h v val → ∀ w, DW d w → w < G.ws.length := by
  intro n
  induction n with
  | zero => intro v d val e; simp [rd] at e
  | succ n ih =>
    have all : ∀ (xs : List V) (vs : List Value) (ds : List D), RVs G.ws am h xs vs → mapO (rd n hp) xs = some ds → ∀ w, DWs ds w → w < G.ws.length := by
      intro xs
      induction xs with
      | nil => intro vs ds r e; rw [mapO_nil e]; intro w q; simp [DWs] at q
      | cons y ys hi =>
        intro vs ds r e w q
        cases r with
        | cons r1 r2 =>
          obtain ⟨d, r, e1, e2, rfl⟩ := mapO_cons e
          simp only [DWs] at q
          rcases q with q | q
          · exact ih y d _ e1 r1 w q
          · exact hi _ r r2 e2 w q
    intro v d val e rv w q
    cases rv with
    | none => simp [rd] at e; subst e; simp [DW] at q
    | bool b => simp [rd] at e
    | int i t => simp [rd] at e; subst e; simp [DW] at q
    | str t hw => simp [rd] at e; subst e; simp [DW] at q; subst q; obtain ⟨z, _⟩ := List.getElem?_eq_some_iff.mp hw; exact z
    | tup i r l =>
      simp only [rd, Option.map_eq_some_iff] at e
      obtain ⟨ds, e1, rfl⟩ := e
      exact all _ _ ds r e1 w (by simpa [DW] using q)
    | ref hm =>
      rename_i a p
      simp only [rd] at e
      split at e
      · rename_i o ho
        split at e
        · rename_i xs hi
          simp only [Option.map_eq_some_iff] at e
          obtain ⟨ds, e1, rfl⟩ := e
          obtain ⟨vs, k, ob, h1, h2, h3, h4, -⟩ := x.items ho hi hm
          exact all _ _ ds h4 e1 w (by simpa [DW] using q)
        · cases e
      · cases e
end

section
variable {G : Glb} {am : AM} {s : Shared} {hp : Hp} {A : Around} {E : Value → Shared → Prop} {Q : Value → Shared → Prop}

theorem word_eq (GO : GOk G) {w u : Nat} {x y : Str} (h1 : G.ws[w]? = some x) (h2 : G.ws[u]? = some y) : (x = y ↔ w = u) := by
  have l1 : w < G.ws.length := by obtain ⟨z, _⟩ := List.getElem?_eq_some_iff.mp h1; exact z
  constructor
  · rintro rfl; exact (List.getElem?_inj l1 GO.wsN).mp (h1.trans h2.symm)
  · rintro rfl; rw [h1] at h2; exact Option.some.inj h2

theorem eqD_ok (GO : GOk G) (x : HR G am s.heap hp) {a b : V} {va vb : Value} {r : Bool} (e : eqD hp a b = some r) (ra : RV G.ws am s.heap a va) (rb : RV G.ws am s.heap b vb) (hu : A.units + 64 < cLine) :
    (Q (.bool r) s → wpAny (model G.prog G.w) A (compareOp .Eq va vb) Q E s) ∧ (Q (.bool (!r)) s → wpAny (model G.prog G.w) A (compareOp .NotEq va vb) Q E s) := by
  unfold eqD at e
  split at e
  · rename_i da db ea eb
    obtain ⟨as, a1, a2, a3⟩ := rd_reads GO x 60 a da va ea ra
    obtain ⟨bs, b1, b2, b3⟩ := rd_reads GO x 60 b db vb eb rb
    have q := eqv_iff GO.wsN da db (rd_words x 60 a da va ea ra) (rd_words x 60 b db vb eb rb)
    have e' : PyData.eqv (toPy G.ws da) (toPy G.ws db) = r := by
      rw [← Option.some.inj e]
      by_cases hq : da = db
      · rw [q.mpr hq]; simp [hq]
      · rw [Bool.eq_false_iff.mpr fun z => hq (q.mp z)]; simp [hq]
    have sa : SeqAt.shaped (toPy G.ws da) = true := by unfold SeqAt.shaped; rw [a2, Bool.true_and]; exact decide_eq_true (Nat.le_trans a3 (by decide))
    have sb : SeqAt.shaped (toPy G.ws db) = true := by unfold SeqAt.shaped; rw [b2, Bool.true_and]; exact decide_eq_true (Nat.le_trans b3 (by decide))
    exact ⟨fun h => eq_dataH a1 b1 sa sb hu (by rw [e']; exact h), fun h => ne_dataH a1 b1 sa sb hu (by rw [e']; exact h)⟩
  · cases e

theorem eqop_ok (GO : GOk G) (x : HR G am s.heap hp) {a b : V} {va vb : Value} {r : Bool} (e : eqop a b hp = some r) (ra : RV G.ws am s.heap a va) (rb : RV G.ws am s.heap b vb) (hu : A.units + 64 < cLine) :
    (Q (.bool r) s → wpAny (model G.prog G.w) A (compareOp .Eq va vb) Q E s) ∧ (Q (.bool (!r)) s → wpAny (model G.prog G.w) A (compareOp .NotEq va vb) Q E s) := by
  cases ha : a.asBool with
  | none =>
    change (match a.asBool with | some x => b.asBool.map fun y => decide (x = y) | none => eqD hp a b) = some r at e
    rw [ha] at e
    exact eqD_ok GO x e ra rb hu
  | some p =>
    change (match a.asBool with | some x => b.asBool.map fun y => decide (x = y) | none => eqD hp a b) = some r at e
    rw [ha] at e
    obtain ⟨q, hb, e2⟩ := map_some' e
    clear e
    subst e2
    rw [asBool_some ha] at ra
    rw [asBool_some hb] at rb
    cases ra; cases rb
    refine ⟨fun h => eq_bool (by simpa [BEq.beq] using h), fun h => ne_bool ?_⟩
    simpa [bne, BEq.beq] using h

theorem allStr_reads (GO : GOk G) {xs : List V} {vs : List Value} {us : List Nat} (r : RVs G.ws am s.heap xs vs) (e : allStr xs = some us) :
    ∃ as, ReadsAll s.heap vs (us.map fun w => PyData.str (G.ws[w]?.getD Str.empty)) as ∧ PyData.canLayAll0 (us.map fun w => PyData.str (G.ws[w]?.getD Str.empty)) = true ∧ PyData.depthAll (us.map fun w => PyData.str (G.ws[w]?.getD Str.empty)) ≤ 1 ∧ ∀ u ∈ us, u < G.ws.length := by
  induction xs generalizing vs us with
  | nil => cases r; cases e; exact ⟨_, .nil, rfl, Nat.zero_le _, fun _ z => (by cases z)⟩
  | cons x xs ih =>
    cases r with
    | cons r1 r2 => cases r1 with
      | str t hw =>
        obtain ⟨u, e1, e2⟩ := map_some' (show (allStr xs).map _ = some us from e)
        subst e2
        obtain ⟨as, a1, a2, a3, a4⟩ := ih r2 e1
        refine ⟨_, by simp only [List.map_cons, hw]; exact .cons (.str _ t) a1, ?_, ?_, ?_⟩
        · simp only [List.map_cons, PyData.canLayAll0, PyData.canLay0, hw, Option.getD_some, a2, Bool.and_true]; exact GO.wsOk _ (List.mem_of_getElem? hw)
        · simp only [List.map_cons, PyData.depthAll, PyData.depth]; (first | lia | omega)
        · intro v hv
          rcases List.mem_cons.mp hv with rfl | hv
          · obtain ⟨z, _⟩ := List.getElem?_eq_some_iff.mp hw; exact z
          · exact a4 v hv
      | _ => cases e
theorem allInt_reads {xs : List V} {vs : List Value} {us : List Int} (r : RVs G.ws am s.heap xs vs) (e : allInt xs = some us) :
    ∃ as, ReadsAll s.heap vs (us.map PyData.int) as ∧ PyData.canLayAll0 (us.map PyData.int) = true ∧ PyData.depthAll (us.map PyData.int) ≤ 1 := by
  induction xs generalizing vs us with
  | nil => cases r; cases e; exact ⟨_, .nil, rfl, Nat.zero_le _⟩
  | cons x xs ih =>
    cases r with
    | cons r1 r2 => cases r1 with
      | int i t =>
        obtain ⟨u, e1, e2⟩ := map_some' (show (allInt xs).map _ = some us from e)
        subst e2
        obtain ⟨as, a1, a2, a3⟩ := ih r2 e1
        refine ⟨_, by simp only [List.map_cons]; exact .cons (.int i t) a1, ?_, ?_⟩
        · simp only [List.map_cons, PyData.canLayAll0, PyData.canLay0, a2, Bool.and_true]
        · simp only [List.map_cons, PyData.depthAll, PyData.depth]; (first | lia | omega)
      | _ => cases e

theorem any_str (GO : GOk G) {w : Nat} (hw : w < G.ws.length) : ∀ (us : List Nat), (∀ u ∈ us, u < G.ws.length) → ((us.map fun w => PyData.str (G.ws[w]?.getD Str.empty)).any fun y => PyData.eqv y (.str (G.ws[w]?.getD Str.empty))) = decide (w ∈ us)
  | [], _ => by simp
  | u :: us, h => by
    have ih := any_str GO hw us fun v hv => h v (.tail _ hv)
    have hu := h u (.head _)
    simp only [List.map_cons, List.any_cons, ih, PyData.eqv, List.mem_cons]
    have q := word_eq GO (w := u) (u := w) (List.getElem?_eq_getElem hu) (List.getElem?_eq_getElem hw)
    rw [List.getElem?_eq_getElem hu, List.getElem?_eq_getElem hw]
    simp only [Option.getD_some]
    by_cases e : u = w
    · simp [e]
    · have : ¬ G.ws[u] = G.ws[w] := fun z => e (q.mp z)
      have e' : ¬ w = u := fun z => e z.symm
      simp [this, e']
theorem any_int {i : Int} : ∀ (us : List Int), ((us.map PyData.int).any fun y => PyData.eqv y (.int i)) = decide (i ∈ us)
  | [] => by simp
  | u :: us => by
    have ih := any_int (i := i) us
    simp only [List.map_cons, List.any_cons, ih, PyData.eqv, List.mem_cons]
    by_cases e : u = i
    · simp [e]
    · have e' : ¬ i = u := fun z => e z.symm
      simp [e, e']

theorem inS_ok (GO : GOk G) {c : Addr} {a : V} {xs : List V} {va vc : Value} {vs : List Value} {r : Bool} (e : inS a xs = some r) (ra : RV G.ws am s.heap a va) (rs : RVs G.ws am s.heap xs vs)
    (hc : IsTup s.heap c vs.toArray ∨ s.heap.IsList c vs.toArray) (hv : vc = .ref c) (hu : A.units + 64 < cLine) (h : Q (.bool r) s) : wpAny (model G.prog G.w) A (compareOp .In va vc) Q E s := by
  subst hv
  have go : ∀ {ds : List PyData} {d : PyData} {as bs : List Addr}, ReadsAll s.heap vs ds as → Reads s.heap va d bs → PyData.canLayAll0 ds = true → d.canLay0 = true → d.depth ≤ 1 → (ds.any fun y => PyData.eqv y d) = r → wpAny (model G.prog G.w) A (compareOp .In va (.ref c)) Q E s := by
    intro ds d as bs r1 r2 l1 l2 l3 l4
    have hu' : A.units + 1 + min (PyData.depthAll ds) d.depth < cLine := by
      have : min (PyData.depthAll ds) d.depth ≤ 1 := Nat.le_trans (Nat.min_le_right _ _) l3
      (first | lia | omega)
    rcases hc with ⟨o, h1, h2, n, h3⟩ | ⟨o, h1, h2, n, h3⟩
    · exact SeqAt.in_tuple_reads (reads_tuple_at h1 h2 h3 (by simpa using r1)) r2 l1 l2 hu' (by rw [l4]; exact h)
    · exact SeqAt.in_list_reads (reads_list_at h1 h2 h3 (by simpa using r1)) r2 l1 l2 hu' (by rw [l4]; exact h)
  unfold inS at e
  split at e
  · rename_i w
    obtain ⟨us, e1, rfl⟩ := Option.map_eq_some_iff.mp e
    obtain ⟨as, a1, a2, a3, a4⟩ := allStr_reads GO rs e1
    cases ra with
    | str t hw =>
      have hl : w < G.ws.length := by obtain ⟨z, _⟩ := List.getElem?_eq_some_iff.mp hw; exact z
      refine go (d := .str (G.ws[w]?.getD Str.empty)) (bs := []) a1 (by rw [hw]; exact .str _ t) a2 ?_ (by simp [PyData.depth]) (any_str GO hl us a4)
      rw [hw]; simp only [Option.getD_some, PyData.canLay0]; exact GO.wsOk _ (List.mem_of_getElem? hw)
  · rename_i i
    obtain ⟨us, e1, rfl⟩ := Option.map_eq_some_iff.mp e
    obtain ⟨as, a1, a2, a3⟩ := allInt_reads rs e1
    cases ra with
    | int i t => exact go (d := .int i) (bs := []) a1 (.int i t) a2 (by simp [PyData.canLay0]) (by simp [PyData.depth]) (any_int us)
  · cases e

noncomputable def opC : CmpOp → Option C2
  | .Eq => some .eq | .NotEq => some .ne | .Lt => some .lt | .LtE => some .le | .Gt => some .gt | .GtE => some .ge
  | .Is => some .is_ | .IsNot => some .isnot | .In => some .in_ | .NotIn => none

theorem isnot_none_gen {v : Value} (h : Q (.bool (!(v == .none))) s) : wpAny (model G.prog G.w) A (compareOp .IsNot v .none) Q E s := by
  cases v with
  | none => exact isnot_none_none (by simpa using h)
  | _ => exact isnot_none_ne (by intro z; cases z) h

theorem nil_ok {a : V} {va : Value} {q : Bool} (e : nilOf a = some q) (ra : RV G.ws am s.heap a va) : (va == .none) = q := by
  cases ra with
  | bool b => cases e
  | none => cases e; rfl
  | _ => cases e; rfl
theorem is_none_all {v : Value} (h : Q (.bool (v == .none)) s) : wpAny (model G.prog G.w) A (compareOp .Is v .none) Q E s := by
  cases v with
  | none => exact is_none_gen (by simpa using h)
  | _ => exact is_none_ne (by intro z; cases z) h
theorem cmpop_ok (GO : GOk G) (x : HR G am s.heap hp) {op : CmpOp} {c2 : C2} (ho : opC op = some c2) {a b : V} {va vb : Value} {r : Bool} (e : cmpop c2 a b hp = some r) (ra : RV G.ws am s.heap a va) (rb : RV G.ws am s.heap b vb) (hu : A.units + 64 < cLine)
    (h : Q (.bool r) s) : wpAny (model G.prog G.w) A (compareOp op va vb) Q E s := by
  have two : ∀ {f : Int → Int → Bool}, (a.asInt.bind fun x => b.asInt.map fun y => f x y) = some r → ∃ p q t u, va = .int p t ∧ vb = .int q u ∧ f p q = r := fun {f} e => by
    obtain ⟨p, h1, e⟩ := bind_some e
    obtain ⟨q, h2, e⟩ := map_some' e
    rw [asInt_some h1] at ra
    rw [asInt_some h2] at rb
    cases ra; cases rb
    exact ⟨_, _, _, _, rfl, rfl, e⟩
  cases op with
  | NotIn => cases ho
  | Eq => cases ho; exact (eqop_ok GO x e ra rb hu).1 h
  | NotEq =>
    cases ho
    obtain ⟨q, e1, e2⟩ := map_some' (show (eqop a b hp).map not = some r from e)
    subst e2
    exact (eqop_ok GO x e1 ra rb hu).2 h
  | Lt => cases ho; obtain ⟨p, q, t, u, rfl, rfl, rfl⟩ := two (f := fun x y => decide (x < y)) e; exact lt_int h
  | LtE => cases ho; obtain ⟨p, q, t, u, rfl, rfl, rfl⟩ := two (f := fun x y => decide (x ≤ y)) e; exact le_int h
  | Gt => cases ho; obtain ⟨p, q, t, u, rfl, rfl, rfl⟩ := two (f := fun x y => decide (y < x)) e; exact gt_int h
  | GtE => cases ho; obtain ⟨p, q, t, u, rfl, rfl, rfl⟩ := two (f := fun x y => decide (y ≤ x)) e; exact ge_int h
  | Is =>
    cases ho
    obtain ⟨hb, e⟩ := if_some (show (if isNil b = true then nilOf a else none) = some r from e)
    rw [isNil_true hb] at rb
    cases rb
    exact is_none_all (by rw [nil_ok e ra]; exact h)
  | IsNot =>
    cases ho
    obtain ⟨hb, e⟩ := if_some (show (if isNil b = true then (nilOf a).map not else none) = some r from e)
    obtain ⟨q, e1, e2⟩ := map_some' e
    subst e2
    rw [isNil_true hb] at rb
    cases rb
    exact isnot_none_gen (by rw [nil_ok e1 ra]; exact h)
  | In =>
    cases ho
    obtain ⟨xs, e1, e'⟩ := bind_some (show (seqOf b hp).bind (inS a) = some r from e)
    clear e
    change (match b.asTup with | some xs => some xs | none => lstOf b hp) = some xs at e1
    cases ht : b.asTup with
    | some ys =>
      rw [ht] at e1
      cases e1
      rw [asTup_some ht] at rb
      cases rb with
      | tup i r l => exact inS_ok GO e' ra r (.inl i) rfl hu h
    | none =>
      rw [ht] at e1
      obtain ⟨p, rfl, hx⟩ := lstOf_some e1
      cases rb with
      | ref hm =>
        obtain ⟨vs, n, ob, h1, h2, h3, h4, -⟩ := x.items hx rfl hm
        exact inS_ok GO e' ra h4 (.inr ⟨ob, h1, h2, n, h3⟩) rfl hu h
end
end Mine

end
noncomputable section
namespace Mine
open PySem PySem.W PyProof.Rows

section
variable {G : Glb} {am : AM} {s : Shared} {hp : Hp} {A : Around} {E : Value → Shared → Prop} {Q : V → Hp → Prop}

noncomputable def opB : Operator → Option B2
  | .Add => some .add | .Sub => some .sub | .Mult => some .mul | .FloorDiv => some .div | .Mod => some .mod | _ => none

theorem Same.toks (x : Same G s) (t : Nat) : Same G { s with toks := t } := ⟨x.gens, x.os⟩
theorem Same.heap (x : Same G s) (h : Heap) : Same G { s with heap := h } := ⟨x.gens, x.os⟩

theorem evp_new_list {hp : Hp} {xs : List V} {vs : List Value} (x : HR G am s.heap hp) (sm : Same G s) (r : RVs G.ws am s.heap xs vs) (l : xs.length ≤ lim) (q : Q (.ref hp.length) (hp ++ [.list xs])) {items : Array Value} (hi : items = vs.toArray) :
    EvP G s am Q (.ref s.heap.objs.size) { s with heap := s.heap.push { cls := .type "list", data := .seq items } } := by
  subst hi
  have k := keep_push (h := s.heap) ({ cls := .type "list", data := .seq vs.toArray } : Obj)
  have le : AM.Le am (am ++ [(s.heap.objs.size, s.heap.objs.size)]) := fun i q e => by rw [List.getElem?_append_left (by obtain ⟨z, _⟩ := List.getElem?_eq_some_iff.mp e; exact z)]; exact e
  have b : G.base.get? s.heap.objs.size = none := by
    cases c : G.base.get? s.heap.objs.size with
    | none => rfl
    | some o => have := x.base _ _ c; rw [get_none_of_size] at this; cases this
  refine ⟨.ref hp.length, hp ++ [.list xs], am ++ [(s.heap.objs.size, s.heap.objs.size)], q, ?_, ?_, ?_, sm.heap _⟩
  · have : (am ++ [(s.heap.objs.size, s.heap.objs.size)])[hp.length]? = some (s.heap.objs.size, s.heap.objs.size) := by rw [← x.len]; exact am_last _
    exact .ref this
  · exact x.more k get_none_of_size (.list (Heap.get?_push_size _ rfl) (r.mono (TupKept.push _) le) l b)
  · exact Aft.more k get_none_of_size get_none_of_size

theorem intBits_small {i : Int} (h : small i = true) : Builtin.Int.intBits i ≤ 64 := by
  simp only [small, decide_eq_true_eq] at h
  unfold Builtin.Int.intBits
  split
  · (first | lia | omega)
  · rename_i hz
    have : i.natAbs.log2 < 60 := (Nat.log2_lt (fun q => hz (by simpa using q))).mpr (by simpa using h)
    (first | lia | omega)

theorem repL_fold (vs : List Value) : ∀ (n : Nat) (acc : Array Value), List.foldl (fun x1 x2 => x1 ++ x2) acc (List.replicate n vs.toArray) = acc ++ ((List.replicate n vs).flatten).toArray
  | 0, acc => by simp
  | n + 1, acc => by rw [List.replicate_succ, List.foldl_cons, repL_fold vs n, List.replicate_succ]; simp
theorem RVs.rep {ws : List Str} {h : Heap} {xs : List V} {vs : List Value} (r : RVs ws am h xs vs) : ∀ (n : Nat), RVs ws am h (repL xs n) (List.replicate n vs).flatten
  | 0 => by simp [repL]; exact .nil
  | n + 1 => by simp [repL, List.replicate_succ]; exact r.append (r.rep n)
theorem repL_length (xs : List V) : ∀ n, (repL xs n).length = xs.length * n
  | 0 => by simp [repL]
  | n + 1 => by simp [repL, repL_length xs n, Nat.mul_succ]; (first | lia | omega)

theorem pylong (GO : GOk G) (x : HR G am s.heap hp) {X : Nat → Hp → Prop} {r : Nat} (rm : Room X A r) : PySem.PylongRoom (model G.prog G.w) A s := by
  obtain ⟨env, l, h1, h2, h3, h4, h5⟩ := rm.frames
  exact PySem.PylongRoom.of (GO.nolimit.keeps x.base) (by have := rm.depth; simp only [Builtin.pylongFrames]; (first | lia | omega)) (PySem.SeerAt.of (GO.seer.keeps x.base) GO.tree h1 h2 h3 h4 h5)

theorem opB_inv {op : Operator} {b2 : B2} (ho : opB op = some b2) : (op = .Add ∧ b2 = .add) ∨ (op = .Sub ∧ b2 = .sub) ∨ (op = .Mult ∧ b2 = .mul) ∨ (op = .FloorDiv ∧ b2 = .div) ∨ (op = .Mod ∧ b2 = .mod) := by
  cases op <;> cases ho
  · exact .inl ⟨rfl, rfl⟩
  · exact .inr (.inl ⟨rfl, rfl⟩)
  · exact .inr (.inr (.inl ⟨rfl, rfl⟩))
  · exact .inr (.inr (.inr (.inr ⟨rfl, rfl⟩)))
  · exact .inr (.inr (.inr (.inl ⟨rfl, rfl⟩)))
theorem ints_ok {a b : V} {va vb : Value} {f : Int → Int → Option (V × Hp)} {p : V × Hp} (e : intsV a b f = some p) (ra : RV G.ws am s.heap a va) (rb : RV G.ws am s.heap b vb) : ∃ i j t u, va = .int i t ∧ vb = .int j u ∧ f i j = some p := by
  obtain ⟨i, h1, e⟩ := bind_some e
  obtain ⟨j, h2, e⟩ := bind_some e
  rw [asInt_some h1] at ra
  rw [asInt_some h2] at rb
  cases ra; cases rb
  exact ⟨_, _, _, _, rfl, rfl, e⟩

theorem mul_list (x : HR G am s.heap hp) (sm : Same G s) {a0 : Nat} {i : Int} {va vb : Value} {xs : List V} (h1 : hp[a0]? = some (.list xs)) (hl : i.natAbs ≤ lim ∧ xs.length * i.toNat ≤ lim) (ra : RV G.ws am s.heap (.ref a0) va) (rb : RV G.ws am s.heap (.int i) vb)
    (h : Q (.ref hp.length) (hp ++ [.list (repL xs i.toNat)])) : wpAny (model G.prog G.w) A (binaryOp .Mult va vb) (EvP G s am Q) E s := by
  cases ra with
  | ref m1 => cases rb with
    | int _ u =>
      have o1 := x.objs _ _ _ h1 m1
      cases o1 with
      | list g1 g2 g3 g4 =>
        rename_i x1 vs n
        have ln := g2.length
        have hsz : vs.toArray.size * i.toNat ≤ 2 ^ 24 := by rw [List.size_toArray, ← ln]; have := hl.2; simp only [lim] at this; (first | lia | omega)
        refine wpAny_binaryOp_repeat_ref (T := "list") (U := "int") (by decide) ⟨_, g1, rfl⟩ (fun s' => typeIs_int s' i u) noFill_list_mul F.fills_int_mul F.slot_int_rmul repeat_list F.slot_int_index.lookup
          (call_meets F.slot_int_rmul (typeIs_int s i u) F.entry_int_rmul (F.args_int_rmul_2 _ _) (int___rmul___int_list i u _ vs.toArray n)
            ⟨g1, rfl, ⟨_, g1, rfl⟩, call_meets F.slot_list_mul ⟨_, g1, rfl⟩ F.entry_list_mul (F.args_list_mul_2 _ _)
              (AutoListH.list___mul___list_int_3 _ vs.toArray n i u (by simp [Builtin.List.listFitsIndex]; have := hl.1; simp only [lim] at this; (first | lia | omega)) (by (first | lia | omega)) (by simp [Builtin.List.listTooLong, sizeLine]; simp only [List.size_toArray] at hsz; (first | lia | omega)))
              ⟨g1, ?_⟩⟩)
        refine evp_new_list x sm (g2.rep i.toNat) (by rw [repL_length]; exact hl.2) h ?_
        by_cases hv : vs = []
        · subst hv; simp
        · rw [if_neg (by simpa using hv), repL_fold]; simp

theorem binop_ok (GO : GOk G) (x : HR G am s.heap hp) (sm : Same G s) {op : Operator} {b2 : B2} (ho : opB op = some b2) {a b : V} {va vb : Value} {p : V × Hp} (e : binop b2 a b hp = some p) (ra : RV G.ws am s.heap a va) (rb : RV G.ws am s.heap b vb)
    {X : Nat → Hp → Prop} {r : Nat} (rm : Room X A r) (h : Q p.1 p.2) : wpAny (model G.prog G.w) A (binaryOp op va vb) (EvP G s am Q) E s := by
  have here : ∀ i, Q (.int i) hp → EvP G s am Q (.int i s.toks) { s with toks := s.toks + 1 } := fun i q => evp_here (v := .int i) q (.int i _) x rfl (sm.toks _)
  rcases opB_inv ho with ⟨rfl, rfl⟩ | ⟨rfl, rfl⟩ | ⟨rfl, rfl⟩ | ⟨rfl, rfl⟩ | ⟨rfl, rfl⟩
  · change (match a.asInt with | some x => b.asInt.map fun y => (V.int (x + y), hp) | none => (lstOf a hp).bind fun xs => (lstOf b hp).bind fun ys => if xs.length + ys.length ≤ lim then some (V.ref hp.length, hp ++ [O.list (xs ++ ys)]) else none) = some p at e
    cases ha : a.asInt with
    | some i =>
      rw [ha] at e
      obtain ⟨j, hb, e⟩ := map_some' e
      subst e
      rw [asInt_some ha] at ra
      rw [asInt_some hb] at rb
      cases ra; cases rb; exact PyProof.Rows.add_int (here _ h)
    | none =>
      rw [ha] at e
      obtain ⟨xs, h1, e⟩ := bind_some e
      obtain ⟨ys, h2, e⟩ := bind_some e
      obtain ⟨hl, e⟩ := if_some e
      cases e
      obtain ⟨a1, rfl, l1⟩ := lstOf_some h1
      obtain ⟨a2, rfl, l2⟩ := lstOf_some h2
      cases ra with
      | ref m1 => cases rb with
        | ref m2 =>
          have o1 := x.objs _ _ _ l1 m1
          have o2 := x.objs _ _ _ l2 m2
          cases o1 with
          | list g1 g2 g3 g4 => cases o2 with
            | list k1 k2 k3 k4 =>
              refine P.add_list g1 k1 (evp_new_list x sm (g2.append k2) (by simpa using hl) h (by simp)) ?_
              have := g2.length
              have := k2.length
              simp only [List.size_toArray, sizeLine]
              simp only [lim] at hl
              (first | lia | omega)
  · obtain ⟨i, j, t, u, rfl, rfl, e⟩ := ints_ok e ra rb
    cases e; exact PyProof.Rows.sub_int (here _ h)
  · change (match a.asInt with | some x => b.asInt.bind fun y => if (small x || small y) = true then some (V.int (x * y), hp) else none | none => (lstOf a hp).bind fun xs => b.asInt.bind fun n => if n.natAbs ≤ lim ∧ xs.length * n.toNat ≤ lim then some (V.ref hp.length, hp ++ [O.list (repL xs n.toNat)]) else none) = some p at e
    cases ha : a.asInt with
    | some i =>
      rw [ha] at e
      obtain ⟨j, hb, e⟩ := bind_some e
      obtain ⟨hs, e⟩ := if_some e
      cases e
      rw [asInt_some ha] at ra
      rw [asInt_some hb] at rb
      cases ra; cases rb
      refine PyProof.Rows.mul_int (here _ h) ?_
      rcases Bool.or_eq_true_iff.mp hs with q | q
      · exact .of_left (intBits_small q)
      · exact .of_right (intBits_small q)
    | none =>
      rw [ha] at e
      obtain ⟨xs, h1, e⟩ := bind_some e
      obtain ⟨i, hb, e⟩ := bind_some e
      obtain ⟨hl, e⟩ := if_some e
      cases e
      obtain ⟨a1, rfl, l1⟩ := lstOf_some h1
      rw [asInt_some hb] at rb
      exact mul_list x sm l1 hl ra rb h
  · obtain ⟨i, j, t, u, rfl, rfl, e⟩ := ints_ok e ra rb
    obtain ⟨hz, e⟩ := if_some e
    cases e; exact PyProof.Rows.floordiv_int hz (here _ h) (.inr (pylong GO x rm))
  · obtain ⟨i, j, t, u, rfl, rfl, e⟩ := ints_ok e ra rb
    obtain ⟨hz, e⟩ := if_some e
    cases e; exact PyProof.Rows.mod_int' hz (here _ h)
end
end Mine

end
noncomputable section
namespace Mine
open PySem PySem.W PyProof.Rows

section
variable {G : Glb} {g : Genv} {C N : Oracle} {env : Env} {names : List (Str × NameKind)} {r : Nat}

theorem Room.u64 {X : Nat → Hp → Prop} {A : Around} {r : Nat} (x : Room X A r) : A.units + 64 < cLine := by have := x.units; (first | lia | omega)
theorem EvPb.back {s s1 : Shared} {am am1 : AM} {Q : Bool → Hp → Prop} (a : Aft [] s.heap am s1.heap am1) {v : Bool} {s' : Shared} (x : EvPb G s1 am1 Q v s') : EvPb G s am Q v s' := by
  obtain ⟨hp', am', h1, h3, h4, h5⟩ := x
  exact ⟨hp', am', h1, h3, a.trans h4, h5⟩
theorem evpb_here {s s' : Shared} {am : AM} {Q : Bool → Hp → Prop} {b : Bool} {hp : Hp} (q : Q b hp) (hr : HR G am s'.heap hp) (e : s'.heap = s.heap) (sm : Same G s') : EvPb G s am Q b s' :=
  ⟨hp, am, q, hr, e ▸ Aft.refl _ _ _, sm⟩

theorem snd_bin (GO : GOk G) {e1 e2 : PySem.Expr} {i1 i2 : Mine.E} {op : Operator} {b2 : B2} {pos : Pos} (ho : opB op = some b2) (h1 : Snd G g C N env names r e1 i1) (h2 : Snd G g C N env names r e2 i2) :
    Snd G g C N env names r (.BinOp e1 op e2 pos) (.bin b2 i1 i2) := fun loc hp Q X A s am h rm R => by
  dsimp only [wE_none, wE_bool, wE_int, wE_str, wE_loc, wE_glob, wE_bin, wE_not_, wE_cmp, wE_cmp2, wE_and_, wE_or_, wE_ite, wE_tup, wE_lst, wE_dct, wE_idx, wE_slc, wE_attr, wE_call, wE_new, wE_meth, wE_bi, wE_isi, wE_comp] at h
  refine wpAny_BinOp (ev_two h1 h2 h rm R fun a b p1 p2 va vb s2 am2 k ra rb R2 a2 => ?_)
  cases e : binop b2 a b p2 with
  | none => rw [e] at k; exact k.elim
  | some p =>
    rw [e, onSome_some] at k
    exact wpAny_mono (binop_ok GO R2.hr R2.same ho e ra rb rm k) (fun _ _ z => z.back a2) fun _ _ z => z

theorem snd_pow {a b : Int} {k k' : Nat} {p p' pos : Pos} (hb : 1 ≤ b) (ha : 2 ≤ a) (hc : Builtin.Int.intTooBig (((Builtin.Int.intBits a : Nat) : Int) * b) = false) :
    Snd G g C N env names r (.BinOp (.Constant (.int a) k p) .Pow (.Constant (.int b) k' p') pos) (.int (a ^ b.toNat)) := fun loc hp Q X A s am h rm R => by
  dsimp only [wE_none, wE_bool, wE_int, wE_str, wE_loc, wE_glob, wE_bin, wE_not_, wE_cmp, wE_cmp2, wE_and_, wE_or_, wE_ite, wE_tup, wE_lst, wE_dct, wE_idx, wE_slc, wE_attr, wE_call, wE_new, wE_meth, wE_bi, wE_isi, wE_comp] at h
  refine wpAny_BinOp (wpAny_Constant_int (wpAny_Constant_int ?_))
  have h1 : ¬(b == 0) = true := by simp; (first | lia | omega)
  have h2 : ¬(a == 0 || a == 1) = true := by simp; (first | lia | omega)
  have h3 : ¬(a == -1) = true := by simp; (first | lia | omega)
  refine AutoIntOps.pow_4 (by (first | lia | omega)) h1 h2 h3 (by simp [hc]) ?_
  exact evp_here (v := .int (a ^ b.toNat)) h (.int _ _) R.hr rfl ⟨R.same.gens, R.same.os⟩

theorem snd_neg {a : Int} {k : Nat} {p pos : Pos} : Snd G g C N env names r (.UnaryOp .USub (.Constant (.int a) k p) pos) (.int (-a)) := fun loc hp Q X A s am h rm R => by
  dsimp only [wE_none, wE_bool, wE_int, wE_str, wE_loc, wE_glob, wE_bin, wE_not_, wE_cmp, wE_cmp2, wE_and_, wE_or_, wE_ite, wE_tup, wE_lst, wE_dct, wE_idx, wE_slc, wE_attr, wE_call, wE_new, wE_meth, wE_bi, wE_isi, wE_comp] at h
  refine UnaryOp_ (wpAny_Constant_int (neg_int ?_))
  exact evp_here (v := .int (-a)) h (.int _ _) R.hr rfl ⟨R.same.gens, R.same.os⟩

theorem snd_cmp (GO : GOk G) {e1 e2 : PySem.Expr} {i1 i2 : Mine.E} {op : CmpOp} {c2 : C2} {pos : Pos} (ho : opC op = some c2) (hm : behindInMarks op e2 = false) (h1 : Snd G g C N env names r e1 i1) (h2 : Snd G g C N env names r e2 i2) :
    Snd G g C N env names r (.Compare e1 [op] [e2] pos) (.cmp c2 i1 i2) := fun loc hp Q X A s am h rm R => by
  dsimp only [wE_none, wE_bool, wE_int, wE_str, wE_loc, wE_glob, wE_bin, wE_not_, wE_cmp, wE_cmp2, wE_and_, wE_or_, wE_ite, wE_tup, wE_lst, wE_dct, wE_idx, wE_slc, wE_attr, wE_call, wE_new, wE_meth, wE_bi, wE_isi, wE_comp] at h
  refine wpAny_Compare1 (ev_two h1 h2 h rm R fun a b p1 p2 va vb s2 am2 k ra rb R2 a2 => ?_) hm
  cases e : cmpop c2 a b p2 with
  | none => rw [e] at k; exact k.elim
  | some b =>
    rw [e, onSome_some] at k
    exact cmpop_ok GO R2.hr ho e ra rb rm.u64 (EvP.back a2 (evp_here (v := .bool b) k (.bool b) R2.hr rfl R2.same))
theorem sndT_cmp (GO : GOk G) {e1 e2 : PySem.Expr} {i1 i2 : Mine.E} {op : CmpOp} {c2 : C2} {pos : Pos} (ho : opC op = some c2) (hm : behindInMarks op e2 = false) (h1 : Snd G g C N env names r e1 i1) (h2 : Snd G g C N env names r e2 i2) :
    SndT G g C N env names r (.Compare e1 [op] [e2] pos) (.cmp c2 i1 i2) := fun loc hp Q X A s am whole h rm R _ => by
  dsimp only [wE_none, wE_bool, wE_int, wE_str, wE_loc, wE_glob, wE_bin, wE_not_, wE_cmp, wE_cmp2, wE_and_, wE_or_, wE_ite, wE_tup, wE_lst, wE_dct, wE_idx, wE_slc, wE_attr, wE_call, wE_new, wE_meth, wE_bi, wE_isi, wE_comp] at h
  refine wpAny_isTrue_Compare1 (ev_two h1 h2 h rm R fun a b p1 p2 va vb s2 am2 k ra rb R2 a2 => ?_) hm
  cases e : cmpop c2 a b p2 with
  | none => rw [e] at k; exact k.elim
  | some b =>
    rw [e, onSome_some] at k
    simp only [isB, onSome_some] at k
    exact cmpop_ok GO R2.hr ho e ra rb rm.u64 (wpAny_truthy_bool (EvPb.back a2 (evpb_here k R2.hr rfl R2.same)))

theorem chain2 (GO : GOk G) {A : Around} {e1 e2 e3 : PySem.Expr} {i1 i2 i3 : Mine.E} {o1 o2 : CmpOp} {c1 c2 : C2} {loc : Locs} {hp : Hp} {X : Nat → Hp → Prop} {s : Shared} {am : AM} {K : V → Hp → Prop} {W : Value → Value → Shared → Prop}
    (h1 : Snd G g C N env names r e1 i1) (h2 : Snd G g C N env names r e2 i2) (h3 : Snd G g C N env names r e3 i3) (ho1 : opC o1 = some c1) (ho2 : opC o2 = some c2) (rm : Room X A r) (R : Rel G env names s am loc hp)
    (h : wpE g C N loc i1 hp (fun va h1 => wpE g C N loc i2 h1 (fun vb h2 => onSome (cmpop c1 va vb h2) fun r =>
      match r with
      | false => K (.bool false) h2
      | true => wpE g C N loc i3 h2 (fun vc h3 => onSome (cmpop c2 vb vc h3) fun r2 => K (.bool r2) h3) X) X) X)
    (fin : ∀ (va vb : Value) (s2 : Shared), wpAny (model G.prog G.w) A (compareOp o1 va vb) (fun c s3 => (c = .bool false ∧ EvP G s am K (.bool false) s3) ∨
      (c = .bool true ∧ wpAny (model G.prog G.w) A (eval e3 env) (fun vc s4 => wpAny (model G.prog G.w) A (compareOp o2 vb vc) (EvP G s am K) (XP G [] s am X) s4) (XP G [] s am X) s3)) (XP G [] s am X) s2 → W va vb s2) :
    wpAny (model G.prog G.w) A (eval e1 env) (fun va s1 => wpAny (model G.prog G.w) A (eval e2 env) (fun vb s2 => W va vb s2) (XP G [] s am X) s1) (XP G [] s am X) s := by
  refine ev_two h1 h2 h rm R fun a b p1 p2 va vb s2 am2 k ra rb R2 a2 => fin va vb s2 ?_
  cases e : cmpop c1 a b p2 with
  | none => rw [e] at k; exact k.elim
  | some b =>
    rw [e, onSome_some] at k
    refine cmpop_ok GO R2.hr ho1 e ra rb rm.u64 ?_
    cases b with
    | false => exact .inl ⟨rfl, EvP.back a2 (evp_here (v := .bool false) k (.bool false) R2.hr rfl R2.same)⟩
    | true =>
      refine .inr ⟨rfl, wpAny_mono (h3 loc p2 _ X A s2 am2 k rm R2) (fun vc s4 z => ?_) fun _ _ z => z.back a2⟩
      obtain ⟨c, p3, am3, z1, z2, z3, z4, z5⟩ := z
      cases e' : cmpop c2 b c p3 with
      | none => rw [e'] at z1; exact z1.elim
      | some q =>
        rw [e', onSome_some] at z1
        exact cmpop_ok GO z3 ho2 e' (z4.rv rb) z2 rm.u64 (EvP.back (a2.trans z4) (evp_here (v := .bool q) z1 (.bool q) z3 rfl z5))

theorem snd_cmp2 (GO : GOk G) {e1 e2 e3 : PySem.Expr} {i1 i2 i3 : Mine.E} {o1 o2 : CmpOp} {c1 c2 : C2} {pos : Pos} (ho1 : opC o1 = some c1) (ho2 : opC o2 = some c2) (hm : lastMarks [o1, o2] [e2, e3] = false)
    (h1 : Snd G g C N env names r e1 i1) (h2 : Snd G g C N env names r e2 i2) (h3 : Snd G g C N env names r e3 i3) : Snd G g C N env names r (.Compare e1 [o1, o2] [e2, e3] pos) (.cmp2 c1 c2 i1 i2 i3) := fun loc hp Q X A s am h rm R => by
  dsimp only [wE_none, wE_bool, wE_int, wE_str, wE_loc, wE_glob, wE_bin, wE_not_, wE_cmp, wE_cmp2, wE_and_, wE_or_, wE_ite, wE_tup, wE_lst, wE_dct, wE_idx, wE_slc, wE_attr, wE_call, wE_new, wE_meth, wE_bi, wE_isi, wE_comp] at h
  refine Compare_chain (wpAny_mono (chain2 GO h1 h2 h3 ho1 ho2 rm R h (W := fun va vb s2 => wpAny (model G.prog G.w) A (compareOp o1 va vb) (fun c s₂ => wpAny (model G.prog G.w) A (truthy c)
      (fun t s₃ => if t then wpAny (model G.prog G.w) A (compareChain pos vb [o2] [eval e3 env]) (EvP G s am Q) (XP G [] s am X) s₃ else EvP G s am Q c s₃) (XP G [] s am X) s₂) (XP G [] s am X) s2) fun va vb s2 z => ?_) (fun va s1 z => chain_link z) fun _ _ z => z) hm
  refine wpAny_mono z (fun c s3 y => ?_) fun _ _ y => y
  rcases y with ⟨rfl, y⟩ | ⟨rfl, y⟩
  · exact wpAny_truthy_bool y
  · exact wpAny_truthy_bool (chain_last y)

theorem snd_not {e : PySem.Expr} {i : Mine.E} {pos : Pos} (h1 : Snd G g C N env names r e i) : Snd G g C N env names r (.UnaryOp .Not e pos) (.not_ i) := fun loc hp Q X A s am h rm R => by
  dsimp only [wE_none, wE_bool, wE_int, wE_str, wE_loc, wE_glob, wE_bin, wE_not_, wE_cmp, wE_cmp2, wE_and_, wE_or_, wE_ite, wE_tup, wE_lst, wE_dct, wE_idx, wE_slc, wE_attr, wE_call, wE_new, wE_meth, wE_bi, wE_isi, wE_comp] at h
  refine UnaryOp_ (wpAny_mono (h1 loc hp _ X A s am h rm R) (fun v s1 z => ?_) fun _ _ z => z)
  obtain ⟨c, p3, am3, z1, z2, z3, z4, z5⟩ := z
  cases z2 with
  | bool b =>
    simp only [isB, onSome_some] at z1
    exact not_of (wpAny_truthy_bool (EvP.back z4 (evp_here (v := .bool (!b)) z1 (.bool _) z3 rfl z5)))
  | _ => exact z1.elim
theorem sndT_not {e : PySem.Expr} {i : Mine.E} {pos : Pos} (h1 : SndT G g C N env names r e i) : SndT G g C N env names r (.UnaryOp .Not e pos) (.not_ i) := fun loc hp Q X A s am whole h rm R _ => by
  dsimp only [wE_none, wE_bool, wE_int, wE_str, wE_loc, wE_glob, wE_bin, wE_not_, wE_cmp, wE_cmp2, wE_and_, wE_or_, wE_ite, wE_tup, wE_lst, wE_dct, wE_idx, wE_slc, wE_attr, wE_call, wE_new, wE_meth, wE_bi, wE_isi, wE_comp] at h
  refine isTrue_not (h1 loc hp (fun b h => Q (!b) h) X A s am _ ?_ rm R rfl)
  have : (fun v h1 => onSome (isB v) fun b => onSome (isB (V.bool !b)) fun b => Q b h1) = (fun v h1 => onSome (isB v) fun b => Q (!b) h1) := by
    funext v h1; cases v <;> rfl
  rw [this] at h; exact h

theorem sndT_plain {e : PySem.Expr} {i : Mine.E} (he : ∀ whole, isTrue e env whole = (do let v ← whole; standAt e.pos; holding [v] (truthy v))) (h1 : Snd G g C N env names r e i) : SndT G g C N env names r e i := fun loc hp Q X A s am whole h rm R hw => by
  subst hw
  refine isTrue_plain (wpAny_mono (h1 loc hp _ X A s am h rm R) (fun v s1 z => ?_) fun _ _ z => z) (he _)
  obtain ⟨c, p3, am3, z1, z2, z3, z4, z5⟩ := z
  cases z2 with
  | bool b =>
    simp only [isB, onSome_some] at z1
    exact wpAny_truthy_bool (EvPb.back z4 (evpb_here z1 z3 rfl z5))
  | _ => exact z1.elim

theorem snd_one {op : BoolOp} {e : PySem.Expr} {i : Mine.E} {pos : Pos} (h1 : Snd G g C N env names r e i) : Snd G g C N env names r (.BoolOp op [e] pos) i := fun loc hp Q X A s am h rm R => BoolOp_one (h1 loc hp Q X A s am h rm R)
theorem snd_and {e e2 : PySem.Expr} {rest : List PySem.Expr} {i i2 : Mine.E} {pos : Pos} (h1 : Snd G g C N env names r e i) (h2 : Snd G g C N env names r (.BoolOp .And (e2 :: rest) pos) i2) :
    Snd G g C N env names r (.BoolOp .And (e :: e2 :: rest) pos) (.and_ i i2) := fun loc hp Q X A s am h rm R => by
  dsimp only [wE_none, wE_bool, wE_int, wE_str, wE_loc, wE_glob, wE_bin, wE_not_, wE_cmp, wE_cmp2, wE_and_, wE_or_, wE_ite, wE_tup, wE_lst, wE_dct, wE_idx, wE_slc, wE_attr, wE_call, wE_new, wE_meth, wE_bi, wE_isi, wE_comp] at h
  refine BoolOp_and (wpAny_mono (h1 loc hp _ X A s am h rm R) (fun v s1 z => ?_) fun _ _ z => z)
  obtain ⟨c, p3, am3, z1, z2, z3, z4, z5⟩ := z
  cases z2 with
  | bool b =>
    simp only [isB, onSome_some] at z1
    refine wpAny_truthy_bool ?_
    cases b with
    | false => exact EvP.back z4 (evp_here (v := .bool false) z1 (.bool _) z3 rfl z5)
    | true => exact wpAny_mono (h2 loc p3 Q X A s1 am3 z1 rm (R.step z4 z3 z5)) (fun _ _ y => y.back z4) fun _ _ y => y.back z4
  | _ => exact z1.elim
theorem snd_or {e e2 : PySem.Expr} {rest : List PySem.Expr} {i i2 : Mine.E} {pos : Pos} (h1 : Snd G g C N env names r e i) (h2 : Snd G g C N env names r (.BoolOp .Or (e2 :: rest) pos) i2) :
    Snd G g C N env names r (.BoolOp .Or (e :: e2 :: rest) pos) (.or_ i i2) := fun loc hp Q X A s am h rm R => by
  dsimp only [wE_none, wE_bool, wE_int, wE_str, wE_loc, wE_glob, wE_bin, wE_not_, wE_cmp, wE_cmp2, wE_and_, wE_or_, wE_ite, wE_tup, wE_lst, wE_dct, wE_idx, wE_slc, wE_attr, wE_call, wE_new, wE_meth, wE_bi, wE_isi, wE_comp] at h
  refine BoolOp_or (wpAny_mono (h1 loc hp _ X A s am h rm R) (fun v s1 z => ?_) fun _ _ z => z)
  obtain ⟨c, p3, am3, z1, z2, z3, z4, z5⟩ := z
  cases z2 with
  | bool b =>
    simp only [isB, onSome_some] at z1
    refine wpAny_truthy_bool ?_
    cases b with
    | true => exact EvP.back z4 (evp_here (v := .bool true) z1 (.bool _) z3 rfl z5)
    | false => exact wpAny_mono (h2 loc p3 Q X A s1 am3 z1 rm (R.step z4 z3 z5)) (fun _ _ y => y.back z4) fun _ _ y => y.back z4
  | _ => exact z1.elim

theorem onSome_isB_comp {v : V} {K : Bool → Prop} : (onSome (isB v) fun b => onSome (isB (.bool b)) K) = onSome (isB v) K := by cases v <;> rfl

theorem sndT_one_and {e : PySem.Expr} {i : Mine.E} {pos : Pos} (h1 : SndT G g C N env names r e i) : SndT G g C N env names r (.BoolOp .And [e] pos) i := fun loc hp Q X A s am whole h rm R _ => by
  refine isTrue_and (wpAny_mono (h1 loc hp Q X A s am _ h rm R rfl) (fun b s1 z => ?_) fun _ _ z => z)
  cases b with
  | false => exact z
  | true => exact isTrue_and_nil z
theorem sndT_one_or {e : PySem.Expr} {i : Mine.E} {pos : Pos} (h1 : SndT G g C N env names r e i) : SndT G g C N env names r (.BoolOp .Or [e] pos) i := fun loc hp Q X A s am whole h rm R _ => by
  refine isTrue_or (wpAny_mono (h1 loc hp Q X A s am _ h rm R rfl) (fun b s1 z => ?_) fun _ _ z => z)
  cases b with
  | true => exact z
  | false => exact isTrue_or_nil z
theorem sndT_and {e e2 : PySem.Expr} {rest : List PySem.Expr} {i i2 : Mine.E} {pos : Pos} (h1 : SndT G g C N env names r e i) (h2 : SndT G g C N env names r (.BoolOp .And (e2 :: rest) pos) i2) :
    SndT G g C N env names r (.BoolOp .And (e :: e2 :: rest) pos) (.and_ i i2) := fun loc hp Q X A s am whole h rm R _ => by
  dsimp only [wE_none, wE_bool, wE_int, wE_str, wE_loc, wE_glob, wE_bin, wE_not_, wE_cmp, wE_cmp2, wE_and_, wE_or_, wE_ite, wE_tup, wE_lst, wE_dct, wE_idx, wE_slc, wE_attr, wE_call, wE_new, wE_meth, wE_bi, wE_isi, wE_comp] at h
  refine isTrue_and (wpAny_mono (h1 loc hp (fun b h1 => match b with | true => wpE g C N loc i2 h1 (fun v h => onSome (isB v) fun b => Q b h) X | false => onSome (isB (V.bool false)) fun b => Q b h1) X A s am _ h rm R rfl) (fun b s1 z => ?_) fun _ _ z => z)
  obtain ⟨p3, am3, z1, z3, z4, z5⟩ := z
  cases b with
  | false => exact EvPb.back z4 (evpb_here z1 z3 rfl z5)
  | true => exact wpAny_mono (h2 loc p3 Q X A s1 am3 (eval (.BoolOp .And (e2 :: rest) pos) env) z1 rm (R.step z4 z3 z5) rfl) (fun _ _ y => y.back z4) fun _ _ y => y.back z4
theorem sndT_or {e e2 : PySem.Expr} {rest : List PySem.Expr} {i i2 : Mine.E} {pos : Pos} (h1 : SndT G g C N env names r e i) (h2 : SndT G g C N env names r (.BoolOp .Or (e2 :: rest) pos) i2) :
    SndT G g C N env names r (.BoolOp .Or (e :: e2 :: rest) pos) (.or_ i i2) := fun loc hp Q X A s am whole h rm R _ => by
  dsimp only [wE_none, wE_bool, wE_int, wE_str, wE_loc, wE_glob, wE_bin, wE_not_, wE_cmp, wE_cmp2, wE_and_, wE_or_, wE_ite, wE_tup, wE_lst, wE_dct, wE_idx, wE_slc, wE_attr, wE_call, wE_new, wE_meth, wE_bi, wE_isi, wE_comp] at h
  refine isTrue_or (wpAny_mono (h1 loc hp (fun b h1 => match b with | true => onSome (isB (V.bool true)) fun b => Q b h1 | false => wpE g C N loc i2 h1 (fun v h => onSome (isB v) fun b => Q b h) X) X A s am _ h rm R rfl) (fun b s1 z => ?_) fun _ _ z => z)
  obtain ⟨p3, am3, z1, z3, z4, z5⟩ := z
  cases b with
  | true => exact EvPb.back z4 (evpb_here z1 z3 rfl z5)
  | false => exact wpAny_mono (h2 loc p3 Q X A s1 am3 (eval (.BoolOp .Or (e2 :: rest) pos) env) z1 rm (R.step z4 z3 z5) rfl) (fun _ _ y => y.back z4) fun _ _ y => y.back z4

theorem snd_ite {c a b : PySem.Expr} {ic ia ib : Mine.E} {pos : Pos} (h1 : SndT G g C N env names r c ic) (h2 : Snd G g C N env names r a ia) (h3 : Snd G g C N env names r b ib) : Snd G g C N env names r (.IfExp c a b pos) (.ite ic ia ib) := fun loc hp Q X A s am h rm R => by
  dsimp only [wE_none, wE_bool, wE_int, wE_str, wE_loc, wE_glob, wE_bin, wE_not_, wE_cmp, wE_cmp2, wE_and_, wE_or_, wE_ite, wE_tup, wE_lst, wE_dct, wE_idx, wE_slc, wE_attr, wE_call, wE_new, wE_meth, wE_bi, wE_isi, wE_comp] at h
  refine IfExp_ (wpAny_mono (h1 loc hp (fun b h1 => match b with | true => wpE g C N loc ia h1 Q X | false => wpE g C N loc ib h1 Q X) X A s am _ h rm R rfl) (fun b s1 z => ?_) fun _ _ z => z)
  obtain ⟨p3, am3, z1, z3, z4, z5⟩ := z
  cases b with
  | true => exact wpAny_mono (h2 loc p3 Q X A s1 am3 z1 rm (R.step z4 z3 z5)) (fun _ _ y => y.back z4) fun _ _ y => y.back z4
  | false => exact wpAny_mono (h3 loc p3 Q X A s1 am3 z1 rm (R.step z4 z3 z5)) (fun _ _ y => y.back z4) fun _ _ y => y.back z4
end
end Mine

end
noncomputable section
namespace Mine
open PySem PySem.W PyProof.Rows

noncomputable def notStar : PySem.Expr → Bool
  | .Starred .. => false
  | _ => true
theorem starEach_cons {e : PySem.Expr} (h : notStar e = true) (es : List PySem.Expr) (env : Env) : starEach (e :: es) env = (false, eval e env) :: starEach es env := by
  cases e <;> first | rfl | cases h
noncomputable def notSlice : PySem.Expr → Bool
  | .Slice .. => false
  | _ => true
theorem subscripted_plain {e : PySem.Expr} (h : notSlice e = true) (o i : Value) : subscripted e false o i = operate [o, i] (getItem o i) := by
  cases e <;> first | rfl | cases h

section
variable {G : Glb} {g : Genv} {C N : Oracle} {env : Env} {names : List (Str × NameKind)} {r : Nat}

noncomputable def SndEs (G : Glb) (g : Genv) (C N : Oracle) (env : Env) (names : List (Str × NameKind)) (r : Nat) (es : List PySem.Expr) (is : List Mine.E) : Prop :=
  ∀ (pos : Pos) (loc : Locs) (hp : Hp) (Q : List V → Hp → Prop) (X : Nat → Hp → Prop) (A : Around) (s : Shared) (am : AM),
    wpEs g C N loc is hp Q X → Room X A r → Rel G env names s am loc hp → wpAny (model G.prog G.w) A (spliced (backTo pos (starEach es env))) (fun vals s' => vals.length = es.length ∧ EvPs G s am Q vals s') (XP G [] s am X) s

theorem sndEs_nil : SndEs G g C N env names r [] [] := fun pos loc hp Q X A s am h rm R =>
  Calls.spliced_nil ⟨rfl, [], hp, am, h, .nil, R.hr, Aft.refl _ _ _, R.same⟩
theorem sndEs_cons {e : PySem.Expr} {i : Mine.E} {es : List PySem.Expr} {is : List Mine.E} (hn : notStar e = true) (h1 : Snd G g C N env names r e i) (h2 : SndEs G g C N env names r es is) :
    SndEs G g C N env names r (e :: es) (i :: is) := fun pos loc hp Q X A s am h rm R => by
  dsimp only [wEs_nil, wEs_cons] at h
  rw [starEach_cons hn]
  refine Calls.spliced_cons (wpAny_mono (h1 loc hp _ X A s am h rm R) (fun v s1 z => ?_) fun _ _ z => z)
  obtain ⟨c, p1, am1, z1, z2, z3, z4, z5⟩ := z
  refine wpAny_mono (h2 pos loc p1 _ X A s1 am1 z1 rm (R.step z4 z3 z5)) (fun vs s2 y => ?_) fun _ _ y => y.back z4
  obtain ⟨yl, cs, p2, am2, y1, y2, y3, y4, y5⟩ := y
  exact ⟨by simp [yl], c :: cs, p2, am2, y1, .cons (y4.rv z2) y2, y3, z4.trans y4, y5⟩

theorem newTuple_ {M : Model} {A : Around} {E : Value → Shared → Prop} {s : Shared} {vs : List Value} {Q : Value → Shared → Prop} (h : Q (.ref s.heap.objs.size) { s with heap := s.heap.push { cls := .type "tuple", data := .seq vs.toArray } }) (hz : vs.length ≤ lim) :
    wpAny M A (newTuple vs) Q E s := wpAny_newObj_type h (by show vs.toArray.size ≤ sizeLine; rw [List.size_toArray, sizeLine]; simp only [lim] at hz; (first | lia | omega))
theorem newList_ {M : Model} {A : Around} {E : Value → Shared → Prop} {s : Shared} {vs : List Value} {Q : Value → Shared → Prop} (h : Q (.ref s.heap.objs.size) { s with heap := s.heap.push { cls := .type "list", data := .seq vs.toArray } }) (hz : vs.length ≤ lim) :
    wpAny M A (newList vs) Q E s := wpAny_newObj_type h (by show vs.toArray.size ≤ sizeLine; rw [List.size_toArray, sizeLine]; simp only [lim] at hz; (first | lia | omega))

theorem evp_new_tup {s : Shared} {am : AM} {hp : Hp} {Q : V → Hp → Prop} {xs : List V} {vs : List Value} (x : HR G am s.heap hp) (sm : Same G s) (rv : RVs G.ws am s.heap xs vs) (l : xs.length ≤ lim) (q : Q (.tup xs) hp) {items : Array Value} (hi : items = vs.toArray) :
    EvP G s am Q (.ref s.heap.objs.size) { s with heap := s.heap.push { cls := .type "tuple", data := .seq items } } := by
  subst hi
  have k := keep_push (h := s.heap) ({ cls := .type "tuple", data := .seq vs.toArray } : Obj)
  exact ⟨.tup xs, hp, am, q, .tup ⟨_, Heap.get?_push_size _ rfl, rfl, _, rfl⟩ (rv.mono (TupKept.push _) (fun _ _ e => e)) l, x.keepAll k, Aft.ofKeep k, sm.heap _⟩

theorem snd_tup {es : List PySem.Expr} {is : List Mine.E} {k : Nat} {pos : Pos} (hl : es.length ≤ lim) (h1 : SndEs G g C N env names r es is) : Snd G g C N env names r (.Tuple es k pos) (.tup is) := fun loc hp Q X A s am h rm R => by
  dsimp only [wE_none, wE_bool, wE_int, wE_str, wE_loc, wE_glob, wE_bin, wE_not_, wE_cmp, wE_cmp2, wE_and_, wE_or_, wE_ite, wE_tup, wE_lst, wE_dct, wE_idx, wE_slc, wE_attr, wE_call, wE_new, wE_meth, wE_bi, wE_isi, wE_comp] at h
  refine Tuple_ (wpAny_mono (h1 pos loc hp _ X A s am h rm R) (fun vals s1 z => ?_) fun _ _ z => z)
  obtain ⟨zl, c, p1, am1, z1, z2, z3, z4, z5⟩ := z
  exact newTuple_ (EvP.back z4 (evp_new_tup z3 z5 z2 (by rw [z2.length, zl]; exact hl) z1 rfl)) (by rw [zl]; exact hl)
theorem snd_lst {es : List PySem.Expr} {is : List Mine.E} {pos : Pos} (hl : es.length ≤ lim) (h1 : SndEs G g C N env names r es is) : Snd G g C N env names r (.List es pos) (.lst is) := fun loc hp Q X A s am h rm R => by
  dsimp only [wE_none, wE_bool, wE_int, wE_str, wE_loc, wE_glob, wE_bin, wE_not_, wE_cmp, wE_cmp2, wE_and_, wE_or_, wE_ite, wE_tup, wE_lst, wE_dct, wE_idx, wE_slc, wE_attr, wE_call, wE_new, wE_meth, wE_bi, wE_isi, wE_comp] at h
  refine List_ (wpAny_mono (h1 pos loc hp _ X A s am h rm R) (fun vals s1 z => ?_) fun _ _ z => z)
  obtain ⟨zl, c, p1, am1, z1, z2, z3, z4, z5⟩ := z
  exact newList_ (EvP.back z4 (evp_new_list z3 z5 z2 (by rw [z2.length, zl]; exact hl) z1 rfl)) (by rw [zl]; exact hl)

theorem seqAt_index {xs : List V} {i : Int} {v : V} (e : seqAt xs i = some v) : ∃ j, seqIndex? i xs.length = some j ∧ xs[j]? = some v ∧ -(xs.length : Int) ≤ i ∧ i < xs.length := by
  unfold seqAt at e
  split at e
  · rename_i h0
    have hl : i.toNat < xs.length := by obtain ⟨z, _⟩ := List.getElem?_eq_some_iff.mp e; exact z
    exact ⟨i.toNat, by unfold seqIndex?; simp; (first | lia | omega), e, by (first | lia | omega), by (first | lia | omega)⟩
  · split at e
    · rename_i h0 h1
      exact ⟨((xs.length : Int) + i).toNat, by unfold seqIndex?; simp; (first | lia | omega), e, by (first | lia | omega), by (first | lia | omega)⟩
    · cases e

theorem idx_list {s : Shared} {A : Around} {E : Value → Shared → Prop} {T : Value → Shared → Prop} {a : Addr} {ob : Obj} {vs : List Value} {n : Nat} {xs : List V} {am : AM} {i : Int} {u : Tok} {v : V} (h1 : s.heap.get? a = some ob) (h2 : ob.cls = .type "list") (h3 : ob.data = .seq vs.toArray n)
    (h4 : RVs G.ws am s.heap xs vs) (hl : xs.length ≤ lim) (e : seqAt xs i = some v) (h : ∀ x, RV G.ws am s.heap v x → T x s) : wpAny (model G.prog G.w) A (getItem (.ref a) (.int i u)) T E s := by
  obtain ⟨j, e1, e2, e3, e4⟩ := seqAt_index e
  obtain ⟨x, x1, x2⟩ := h4.get e2
  have ln := h4.length
  simp only [lim] at hl
  by_cases h0 : 0 ≤ i
  · have ej : j = i.toNat := by unfold seqIndex? at e1; simp at e1; (first | lia | omega)
    exact wpAny_getItem_list ⟨ob, h1, h2, n, h3⟩ h0 (by (first | lia | omega)) (by rw [← ej]; simpa using x1) (h x x2)
  · have ej : j = (i + (vs.toArray.size : Int)).toNat := by unfold seqIndex? at e1; simp at e1; rw [List.size_toArray, ← ln]; (first | lia | omega)
    exact wpAny_getItem_list_neg ⟨ob, h1, h2, n, h3⟩ (by (first | lia | omega)) (by rw [List.size_toArray, ← ln]; (first | lia | omega)) (by (first | lia | omega)) (by rw [← ej]; simpa using x1) (h x x2)

theorem RE.find {am : AM} {h : Heap} (GO : GOk G) {k : Nat} {x : Str} (hk : G.ws[k]? = some x) {fs : List (Nat × V)} {es : List DictEntry} {v : V} (r : RE G am h fs es) (e : getK fs k = some v) : ∃ e, es.find? (fun e => e.key.isStr x) = some e ∧ RV G.ws am h v e.val := by
  induction r with
  | nil => cases e
  | cons hj rv r ih =>
    rename_i j y t u val fs es
    have q := word_eq GO hj hk
    change (if j = k then some u else getK fs k) = some v at e
    by_cases hjk : j = k
    · rw [if_pos hjk] at e
      cases e
      have : y = x := q.mpr hjk
      subst this
      exact ⟨_, List.find?_cons_of_pos (by simp [Value.isStr]), rv⟩
    · rw [if_neg hjk] at e
      obtain ⟨en, e1, e2⟩ := ih e
      refine ⟨en, ?_, e2⟩
      rw [List.find?_cons_of_neg]; exact e1
      have : ¬ y = x := fun z => hjk (q.mp z)
      simpa [Value.isStr] using this
theorem RE.miss {am : AM} {h : Heap} (GO : GOk G) {k : Nat} {x : Str} (hk : G.ws[k]? = some x) {fs : List (Nat × V)} {es : List DictEntry} (r : RE G am h fs es) (e : getK fs k = none) : es.find? (fun e => e.key.isStr x) = none := by
  induction r with
  | nil => rfl
  | cons hj rv r ih =>
    rename_i j y t u val fs es
    have q := word_eq GO hj hk
    change (if j = k then some u else getK fs k) = none at e
    by_cases hjk : j = k
    · rw [if_pos hjk] at e; cases e
    · rw [if_neg hjk] at e
      rw [List.find?_cons_of_neg]; exact ih e
      have : ¬ y = x := fun z => hjk (q.mp z)
      simpa [Value.isStr] using this
theorem RE.noRef {am : AM} {h : Heap} {fs : List (Nat × V)} {es : List DictEntry} (r : RE G am h fs es) : es.any (·.refKey) = false := by
  induction r with
  | nil => rfl
  | cons hj rv r ih => simp only [List.any_cons, ih, Bool.or_false]; rfl
theorem RE.lits {am : AM} {h : Heap} {fs : List (Nat × V)} {es : List DictEntry} (r : RE G am h fs es) : KeysLit G.w.params es := by
  induction r with
  | nil => exact trivial
  | cons hj rv r ih => exact ⟨⟨_, _, rfl, rfl⟩, ih⟩

theorem snd_idx (GO : GOk G) {e1 e2 : PySem.Expr} {i1 i2 : Mine.E} {pos : Pos} (hs : notSlice e2 = true) (h1 : Snd G g C N env names r e1 i1) (h2 : Snd G g C N env names r e2 i2) : Snd G g C N env names r (.Subscript e1 e2 pos) (.idx i1 i2) := fun loc hp Q X A s am h rm R => by
  dsimp only [wE_none, wE_bool, wE_int, wE_str, wE_loc, wE_glob, wE_bin, wE_not_, wE_cmp, wE_cmp2, wE_and_, wE_or_, wE_ite, wE_tup, wE_lst, wE_dct, wE_idx, wE_slc, wE_attr, wE_call, wE_new, wE_meth, wE_bi, wE_isi, wE_comp] at h
  refine Subscript_ (ev_two h1 h2 h rm R fun a b p1 p2 va vb s2 am2 k ra rb R2 a2 => ?_)
  cases e : idxop a b p2 with
  | none => rw [e] at k; exact k.elim
  | some v =>
    rw [e, onSome_some] at k
    have fin : ∀ x, RV G.ws am2 s2.heap v x → EvP G s am Q x s2 := fun x rx => EvP.back a2 (evp_here k rx R2.hr rfl R2.same)
    change (match a.asTup with | some xs => b.asInt.bind (seqAt xs) | none => a.asRef.bind fun r => (p2[r]?).bind fun o => idxO o b) = some v at e
    cases ht : a.asTup with
    | some xs =>
      rw [ht] at e
      obtain ⟨n, hb, e⟩ := bind_some e
      rw [asTup_some ht] at ra
      rw [asInt_some hb] at rb
      cases ra with
      | tup i rs l => cases rb with
        | int n u =>
          obtain ⟨j, e1, e2, e3, e4⟩ := seqAt_index e
          obtain ⟨x, x1, x2⟩ := rs.get e2
          have ln := rs.length
          simp only [lim] at l
          exact item_tupleT i (by (first | lia | omega)) (by (first | lia | omega)) (by rw [← ln]; exact e1) x1 (fin x x2) (subscripted_plain hs _ _)
    | none =>
      rw [ht] at e
      obtain ⟨ad, hr, e⟩ := bind_some e
      obtain ⟨o, hx, e⟩ := bind_some e
      rw [asRef_some hr] at ra
      change (match o.items with | some xs => b.asInt.bind (seqAt xs) | none => o.asD.bind fun es => b.asStr.bind (getK es)) = some v at e
      cases ra with
      | ref m =>
        cases hi : o.items with
        | some xs =>
          rw [hi] at e
          obtain ⟨n, hb, e⟩ := bind_some e
          rw [asInt_some hb] at rb
          cases rb with
          | int n u =>
            obtain ⟨vs, n', ob, g1, g2, g3, g4, g5⟩ := R2.hr.items hx hi m
            exact tail_any (T := "list") ⟨ob, g1, g2⟩ slot_list_getitem.lookup (idx_list g1 g2 g3 g4 g5 e fin) (subscripted_plain hs _ _)
        | none =>
          rw [hi] at e
          obtain ⟨es, hd, e⟩ := bind_some e
          obtain ⟨k', hb, e⟩ := bind_some e
          rw [asStr_some hb] at rb
          rw [asD_some hd] at hx
          cases rb with
          | str t hw =>
            have o1 := R2.hr.objs _ _ _ hx m
            cases o1 with
            | dict g1 g2 g3 g4 g5 =>
              obtain ⟨en, f1, f2⟩ := g2.find GO hw e
              have hm : s2.heap.MapOf (strKind G.prog G.w) _ (fun k => findBy Value.isStrOf _ k) := ⟨_, _, _, g1, ⟨rfl, rfl, rfl⟩, rfl, fun en hen => by
                obtain ⟨x, t, e1, e2⟩ := (g2.lits).all en (Array.mem_toList_iff.mpr hen)
                exact ⟨x, by rw [e1]; exact strKind_is G.prog G.w x t, e2⟩, fun _ => rfl⟩
              refine tail_any hm.typeIs slot_dict_getitem.lookup (wpAny_getItem_of (strKind_is G.prog G.w _ t) hm ?_ (?_ : EvP G s am Q en.val _)) (subscripted_plain hs _ _)
              · have q : ∀ x : Str, (fun d : DictEntry => Value.isStrOf x d.key) = fun d => d.key.isStr x := fun x => funext fun d => (isStr_of x d.key).symm
                unfold findBy
                rw [List.find?_toArray, q, f1]; rfl
              · exact EvP.back a2 (evp_here k f2 R2.hr rfl ⟨R2.same.gens, R2.same.os⟩)
end
end Mine

end
noncomputable section
namespace Mine
open PySem PySem.W PyProof.Rows

noncomputable def clsOk (K : Frag) (C : Addr) : Bool := plainGet K C Str.empty && hasDictIn K C && makesIn K C && plainOver K C && findIn K (.ref C) "__setattr__" == some (some (.builtin "object.__setattr__")) && keepIn K (.ref C)

structure GG (G : Glb) (g : Genv) : Prop where
  ok : GOk G
  at_ : G.at_ = g.at_
  glob : ∃ mg, G.base.Ns mainGlobals mg
  bi : ∃ mb, G.base.Ns builtinsNs mb ∧ ∀ x : Str, x ≠ "__name__" → mb x = bootBuiltins x
  fnKeep : ∀ f a, G.fnA f = some a → keepIn G.K (.ref a) = true
  cls : ∀ c C, G.cls c = some C → clsOk G.K C = true
  attrs : ∀ c C f x, G.cls c = some C → g.at_ c f = true → G.ws[f]? = some x → findIn G.K (.ref C) x = some none
  meths : ∀ c C m x fid, G.cls c = some C → g.meth c m = some fid → G.ws[m]? = some x → g.at_ c m = false ∧ ∃ fa, G.fnA fid = some fa ∧ findIn G.K (.ref C) x = some (some (.ref fa)) ∧ isFn G.K (.ref fa) = true
  init : ∀ c fid, g.init c = some fid → ∃ C fa, G.cls c = some C ∧ G.fnA fid = some fa ∧ findIn G.K (.ref C) "__init__" = some (some (.ref fa)) ∧ isFn G.K (.ref fa) = true
  app : G.ws[mAppend]? = some "append"
  pop : G.ws[mPop]? = some "pop"

noncomputable def CallOk (G : Glb) (C : Oracle) (r : Nat) : Prop := ∀ (f : Nat) (a : Addr) (vs : List V) (hp : Hp) (Q : V → Hp → Prop) (X : Nat → Hp → Prop) (A : Around) (s : Shared) (am : AM) (vals : List Value), G.fnA f = some a → C f vs hp Q X → RoomC X A r → G.base.objs.size ≤ s.heap.objs.size →
  HR G am s.heap hp → Same G s → RVs G.ws am s.heap vs vals →
  codeAny (model G.prog G.w) A (.call (.ref a) ⟨vals, []⟩) (fun res s' => match res with | .ok (.ret val) => EvP G s am Q val s' | .ok _ => False | .error e => XP G [] s am X e s') s

section
variable {M : Model} {A : Around} {E : Value → Shared → Prop} {s : Shared} {env : Env} {pos : Pos} {f : Value} {first : List Value} {Q : Value → Shared → Prop}

theorem backTo_all (pos : Pos) (env : Env) : ∀ {es : List PySem.Expr}, es.all notStar = true → (backTo pos (starEach es env)).any (·.1) = false
  | [], _ => rfl
  | e :: es, h => by
    simp only [List.all_cons, Bool.and_eq_true] at h
    rw [starEach_cons h.1]
    show (false || (backTo pos (starEach es env)).any (·.1)) = false
    rw [backTo_all pos env h.2]; rfl

theorem callWith_es {P : Heap → Prop} {es : List PySem.Expr} (hn : es.all notStar = true) (hk : ∀ h, P h → ∃ k, (k = Keeper.frame ∨ k = Keeper.machine ∨ k = Keeper.boundFrame) ∧ Looks M h (keeperOf f) k)
    (h : wpAny M A (spliced (backTo pos (starEach es env))) (fun vs s₁ => P s₁.heap ∧ wpAny M A (call f (first ++ vs)) Q E s₁) E s) : wpAny M A (callWith pos f first (backTo pos (starEach es env)) []) Q E s := by
  refine callWith_of (by rw [backTo_all pos env hn]; rfl) hk ?_
  cases es with
  | nil =>
    have h' : wpAny M A (spliced []) (fun vs s₁ => P s₁.heap ∧ wpAny M A (call f (first ++ vs)) Q E s₁) E s := h
    exact fun Γ p hΓ => evalArgs_nil3 (h' Γ p hΓ) Γ p hΓ
  | cons e es =>
    simp only [List.all_cons, Bool.and_eq_true] at hn
    rw [starEach_cons hn.1] at h ⊢
    exact Calls.evalArgs_plain h

theorem keeper_builtin {id : String} {h : Heap} : ∃ k, (k = Keeper.frame ∨ k = Keeper.machine ∨ k = Keeper.boundFrame) ∧ Looks M h (keeperOf (.builtin id)) k := ⟨.machine, .inr (.inl rfl), Looks.of_pure rfl⟩
theorem keeper_type {id : String} {h : Heap} : ∃ k, (k = Keeper.frame ∨ k = Keeper.machine ∨ k = Keeper.boundFrame) ∧ Looks M h (keeperOf (.type id)) k := ⟨.machine, .inr (.inl rfl), Looks.of_pure rfl⟩
end

noncomputable def notCall : PySem.Expr → Bool
  | .Call .. => false
  | _ => true
theorem attributeBase_plain {o : PySem.Expr} (h : notCall o = true) (name : Str) (env : Env) (whole : Sem Value) : attributeBase o name env whole = whole := by
  cases o <;> first | rfl | cases h
theorem eval_Attribute_plain {o : PySem.Expr} (h : notCall o = true) (name : Str) (pos : Pos) (env : Env) : eval (.Attribute o name pos) env = (do
      let v ← eval o env
      standAt pos.atName
      let r ← holding [v] (getAttr v name true)
      letTemporaryGo o v r
      pure r) := by
  show (attributeBase o name env (eval o env) >>= _) = _
  rw [attributeBase_plain h]

section
variable {G : Glb} {g : Genv} {C N : Oracle} {env : Env} {names : List (Str × NameKind)} {r : Nat}

theorem snd_global (GK : GG G g) (O : EnvOk env names) {A : Around} {E : Value → Shared → Prop} {s : Shared} {am : AM} {loc : Locs} {hp : Hp} {x : Str} {v : Value} {pos : Pos} {T : Value → Shared → Prop} (R : Rel G env names s am loc hp) (hk : env.kindOf x = some .globalImplicit) (hd : (x == ("__debug__" : Str)) = false)
    (e : nsIn G.K mainGlobals x = some (some v)) (h : T v s) : wpAny (model G.prog G.w) A (eval (.Name x pos) env) T E s := by
  obtain ⟨mg, hg⟩ := GK.glob
  refine Calls.Name_function_global O.kind hk (Calls.loadGlobal_global (mg := mg) ?_ (mg_of GK.ok.x hg e) h) hd
  rw [O.glob]; exact hg.keeps R.hr.base
theorem snd_builtin (GK : GG G g) (O : EnvOk env names) {A : Around} {E : Value → Shared → Prop} {s : Shared} {am : AM} {loc : Locs} {hp : Hp} {x : Str} {v : Value} {pos : Pos} {T : Value → Shared → Prop} (R : Rel G env names s am loc hp) (hk : env.kindOf x = some .globalImplicit) (hd : (x == ("__debug__" : Str)) = false)
    (e : nsIn G.K mainGlobals x = some none) (hv : bootBuiltins x = some v) (hn : x ≠ "__name__") (h : T v s) : wpAny (model G.prog G.w) A (eval (.Name x pos) env) T E s := by
  obtain ⟨mg, hg⟩ := GK.glob
  obtain ⟨mb, hb, hb'⟩ := GK.bi
  refine Calls.Name_function_global O.kind hk (Calls.loadGlobal_builtin (mg := mg) (mb := mb) ?_ (mg_none_of GK.ok.x hg e) ?_ ((hb' x hn).trans hv) h) hd
  · rw [O.glob]; exact hg.keeps R.hr.base
  · rw [O.bi]; exact hb.keeps R.hr.base

theorem snd_glob (GK : GG G g) (O : EnvOk env names) {x : Str} {k : Nat} {i : Int} {t : Tok} {pos : Pos} (hk : env.kindOf x = some .globalImplicit) (hd : (x == ("__debug__" : Str)) = false) (e : nsIn G.K mainGlobals x = some (some (.int i t))) (hg : g.glob k = .int i) :
    Snd G g C N env names r (.Name x pos) (.glob k) := fun loc hp Q X A s am h rm R => by
  dsimp only [wE_none, wE_bool, wE_int, wE_str, wE_loc, wE_glob, wE_bin, wE_not_, wE_cmp, wE_cmp2, wE_and_, wE_or_, wE_ite, wE_tup, wE_lst, wE_dct, wE_idx, wE_slc, wE_attr, wE_call, wE_new, wE_meth, wE_bi, wE_isi, wE_comp] at h
  rw [hg] at h
  exact snd_global GK O R hk hd e (evp_here h (.int i t) R.hr rfl R.same)

theorem eval_Call_plain {fe : PySem.Expr} (hf : ∃ x p, fe = .Name x p) (args : List PySem.Expr) (pos : Pos) (env : Env) : eval (.Call fe args [] pos) env = (do callWith pos (← eval fe env) [] (backTo pos (starEach args env)) []) := by
  obtain ⟨x, p, rfl⟩ := hf; rfl

theorem call_name {A : Around} {s : Shared} {am : AM} {loc : Locs} {hp : Hp} {X : Nat → Hp → Prop} {x : Str} {p pos : Pos} {es : List PySem.Expr} {is : List Mine.E} {f : Value} {K : List V → Hp → Prop} {T : Value → Shared → Prop} (R : Rel G env names s am loc hp) (rm : Room X A r)
    (hn : es.all notStar = true) (hk : ∀ h, (∀ b o, G.base.get? b = some o → h.get? b = some o) → ∃ k, (k = Keeper.frame ∨ k = Keeper.machine ∨ k = Keeper.boundFrame) ∧ Looks (model G.prog G.w) h (keeperOf f) k)
    (hname : ∀ (U : Value → Shared → Prop), U f s → wpAny (model G.prog G.w) A (eval (.Name x p) env) U (XP G [] s am X) s)
    (h1 : SndEs G g C N env names r es is) (h : wpEs g C N loc is hp K X)
    (fin : ∀ vs vals p1 s1 am1, K vs p1 → RVs G.ws am1 s1.heap vs vals → Rel G env names s1 am1 loc p1 → Aft [] s.heap am s1.heap am1 → vals.length = es.length → wpAny (model G.prog G.w) A (call f vals) T (XP G [] s am X) s1) :
    wpAny (model G.prog G.w) A (eval (.Call (.Name x p) es [] pos) env) T (XP G [] s am X) s := by
  rw [eval_Call_plain ⟨x, p, rfl⟩]
  refine wpAny_bind (hname _ ?_)
  refine callWith_es (P := fun h => ∀ b o, G.base.get? b = some o → h.get? b = some o) hn hk (wpAny_mono (h1 pos loc hp K X A s am h rm R) (fun vals s1 z => ?_) fun _ _ z => z)
  obtain ⟨zl, vs, p1, am1, z1, z2, z3, z4, z5⟩ := z
  exact ⟨z3.base, fin vs vals p1 s1 am1 z1 z2 (R.step z4 z3 z5) z4 zl⟩

theorem snd_call (GK : GG G g) (O : EnvOk env names) (HC : CallOk G C r) {x : Str} {p pos : Pos} {es : List PySem.Expr} {is : List Mine.E} {f : Nat} {a : Addr} (hk : env.kindOf x = some .globalImplicit) (hd : (x == ("__debug__" : Str)) = false) (hf : G.fnA f = some a)
    (e : nsIn G.K mainGlobals x = some (some (.ref a))) (hn : es.all notStar = true) (h1 : SndEs G g C N env names r es is) : Snd G g C N env names r (.Call (.Name x p) es [] pos) (.call f is) := fun loc hp Q X A s am h rm R => by
  dsimp only [wE_none, wE_bool, wE_int, wE_str, wE_loc, wE_glob, wE_bin, wE_not_, wE_cmp, wE_cmp2, wE_and_, wE_or_, wE_ite, wE_tup, wE_lst, wE_dct, wE_idx, wE_slc, wE_attr, wE_call, wE_new, wE_meth, wE_bi, wE_isi, wE_comp] at h
  refine call_name R rm hn (fun hh kb => keeps_K (GK.fnKeep f a hf) hh (GK.ok.x.keeps kb)) (fun U u => snd_global GK O R hk hd e u) h1 h fun vs vals p1 s1 am1 k rv R1 a1 _ => ?_
  refine wpAny_call (codeAny_mono (HC f a vs p1 Q X A s1 am1 vals hf k rm.c R1.size R1.hr R1.same rv) fun res s' z => ?_)
  rcases res with e | (_ | _ | _ | v)
  · exact z.back a1
  · exact z.elim
  · exact z.elim
  · exact z.elim
  · exact EvP.back a1 z

theorem instAt {am : AM} {h : Heap} {hp : Hp} {x : Nat} {c : Nat} {fs : List (Nat × V)} {p : Addr × Addr} (hr : HR G am h hp) (hx : hp[x]? = some (.inst c fs)) (hm : am[x]? = some p) :
    ∃ Ca es n, G.cls c = some Ca ∧ h.get? p.1 = some (instObj Ca p.2) ∧ h.get? p.2 = some (dictOf es n) ∧ RE G am h fs es ∧ fs.length ≤ 500 ∧ G.base.get? p.1 = none ∧ G.base.get? p.2 = none ∧ (∀ q ∈ fs, G.at_ c q.1 = true) ∧ InstAt h p.1 (instObj Ca p.2) Ca (some (dictOf es n)) := by
  have o := hr.objs x _ p hx hm
  cases o with
  | inst a b cc d e f i j => exact ⟨_, _, _, a, b, cc, d, e, f, i, j, ⟨b, rfl, rfl, cc⟩⟩

theorem clsOk_get {K : Frag} {Ca : Addr} (h : clsOk K Ca = true) : (findIn K (.ref Ca) "__getattribute__" = some (some (.builtin "object.__getattribute__")) ∧ findIn K (.ref Ca) "__getattr__" = some none) ∧ hasDictIn K Ca = true ∧ makesIn K Ca = true ∧ plainOver K Ca = true ∧
    findIn K (.ref Ca) "__setattr__" = some (some (.builtin "object.__setattr__")) ∧ keepIn K (.ref Ca) = true := by
  simp only [clsOk, Bool.and_eq_true, beq_iff_eq] at h
  exact ⟨plainGet_of h.1.1.1.1.1, h.1.1.1.1.2, h.1.1.1.2, h.1.1.2, h.1.2, h.2⟩

theorem rv_handed {am : AM} {h : Heap} {v : V} {x : Value} (r : RV G.ws am h v x) : handedIn x = true := by cases r <;> rfl

theorem snd_attr (GK : GG G g) {e : PySem.Expr} {i : Mine.E} {f : Nat} {x : Str} {pos : Pos} (hx : G.ws[f]? = some x) (hc : notCall e = true) (h1 : Snd G g C N env names r e i) : Snd G g C N env names r (.Attribute e x pos) (.attr i f) := fun loc hp Q X A s am h rm R => by
  dsimp only [wE_none, wE_bool, wE_int, wE_str, wE_loc, wE_glob, wE_bin, wE_not_, wE_cmp, wE_cmp2, wE_and_, wE_or_, wE_ite, wE_tup, wE_lst, wE_dct, wE_idx, wE_slc, wE_attr, wE_call, wE_new, wE_meth, wE_bi, wE_isi, wE_comp] at h
  refine Attribute_any_ (wpAny_mono (h1 loc hp _ X A s am h rm R) (fun v s1 z => ?_) fun _ _ z => z) (eval_Attribute_plain hc _ _ _)
  obtain ⟨c, p1, am1, z1, z2, z3, z4, z5⟩ := z
  cases z2 with
  | ref m =>
    dsimp only at z1
    split at z1
    · rename_i cl fs hfs
      obtain ⟨q1, q2⟩ := z1
      cases hg : getK fs f with
      | none => rw [hg] at q2; exact q2.elim
      | some u =>
        rw [hg, onSome_some] at q2
        obtain ⟨Ca, es, n, i1, i2, i3, i4, i5, i6, i7, i8, I⟩ := instAt z3 hfs m
        obtain ⟨⟨k1, k1'⟩, k2, k3, k4, k5, k6⟩ := clsOk_get (GK.cls _ _ i1)
        obtain ⟨en, f1, f2⟩ := i4.find GK.ok hx hg
        refine get_value (K := G.K) (GK.ok.x.keeps z3.base) I k1 (findObj_own (v := en.val) k2 (GK.attrs _ _ f x i1 q1 hx) rfl ?_) (rv_handed f2) (EvP.back z4 (evp_here q2 f2 z3 rfl ⟨z5.gens, z5.os⟩))
        rw [lookIn_dict]; unfold W.getL; rw [f1]
    · exact z1.elim
  | _ => exact z1.elim
end
end Mine

end
noncomputable section
namespace Mine
open PySem PySem.W PyProof.Rows

theorem backTo_all' (pos : Pos) (env : Env) : ∀ {es : List PySem.Expr}, es.all notStar = true → (backTo pos (starEach es env)).all (fun x => !x.1) = true
  | [], _ => rfl
  | e :: es, h => by
    simp only [List.all_cons, Bool.and_eq_true] at h
    rw [starEach_cons h.1]
    show (true && (backTo pos (starEach es env)).all (fun x => !x.1)) = true
    rw [backTo_all' pos env h.2]; rfl

theorem call_method {prog : Program} {w : World} {A : Around} {E : Value → Shared → Prop} {s : Shared} {env : Env} {o : PySem.Expr} {name : Str} {apos pos : Pos} {args : List PySem.Expr} {Q : Value → Shared → Prop} (hc : notCall o = true) (hn : args.all notStar = true) (hl : args.length < 30) (hline : (apos.endLine == pos.line) = true)
    (h : wpAny (model prog w) A (eval o env) (fun ov s₁ => ∀ pl, wpAny (model prog w) A (getMethod ov name pl) (fun p s₂ => wpAny (model prog w) A (callWith pos p.1 p.2 (backTo pos (starEach args env)) []) Q E s₂) E s₁) E s) :
    wpAny (model prog w) A (eval (.Call (.Attribute o name apos) args [] pos) env) Q E s := by
  rw [arm_eval_Call, attributeBase_plain hc]
  refine wpAny_bind (wpAny_mono h (fun ov s₁ h₁ => ?_) fun _ _ e => e)
  refine wpAny_bind (wpAny_standAt ?_)
  have hform : methodCallForm (args.length + ([] : List Keyword).length) (backTo pos (starEach args env)) (backToKw pos (keywordEach [] env)) = true := by
    unfold methodCallForm
    rw [backTo_all' pos env hn]
    show (true && true && decide (args.length + 0 + 0 < 30)) = true
    simp [hl]
  have hpos : methodCallPos true o env apos pos = pure pos := by unfold methodCallPos; simp [hline]
  unfold methodCall
  rw [hform]
  refine wpAny_bind (wpAny_holding ?_)
  show wpAny _ _ (getMethod ov name _) _ _ _
  refine wpAny_mono (h₁ _) (fun p s₂ h₂ => ?_) fun _ _ x => x
  exact wpAny_bind (wpAny_of_eq hpos h₂)

section
variable {G : Glb} {g : Genv} {C N : Oracle} {env : Env} {names : List (Str × NameKind)} {r : Nat}

theorem listObj_update {h : Heap} {x : Addr} {vs : List Value} {n : Nat} (hx : h.get? x = some (listObj vs n)) (f : Array Value → Array Value) {us : List Value} (e : f vs.toArray = us.toArray) : ∃ n', (h.update x (Obj.mapSeq f)).get? x = some (listObj us n') := by
  have := IsL.update (h := h) (l := x) (items := vs.toArray) (n := n) hx f
  rw [e] at this
  exact ⟨_, this⟩

theorem HR.turnList {am : AM} {h : Heap} {hp : Hp} (x : HR G am h hp) {i : Nat} {p : Addr × Addr} {xs ys : List V} {us : List Value} {n' : Nat} {f : Obj → Obj} (hi : hp[i]? = some (.list xs)) (hm : am[i]? = some p) (hu : (h.update p.1 f).get? p.1 = some (listObj us n')) (rv : RVs G.ws am h ys us) (hl : ys.length ≤ lim) :
    HR G am (h.update p.1 f) (hp.set i (.list ys)) ∧ Aft [] h am (h.update p.1 f) am := by
  have o := x.objs _ _ _ hi hm
  cases o with
  | list g1 g2 g3 g4 =>
    rename_i a vs n
    have sb : Heap.SameBut a h (h.update a f) := Heap.SameBut.update ..
    have tk : TupKept h (h.update a f) := TupKept.turn sb g1 (by simp)
    refine ⟨x.turn hi hm sb tk g4 (x.first g1 (by intro C dx e; cases e)) (.list hu (rv.mono tk fun _ _ e => e) hl g4), Aft.turn (p := (a, a)) (List.mem_of_getElem? hm) sb tk (by dsimp only; rw [hu]; rfl)⟩

theorem snd_meth (GK : GG G g) (HC : CallOk G C r) {e : PySem.Expr} {i : Mine.E} {m : Nat} {x : Str} {apos pos : Pos} {es : List PySem.Expr} {is : List Mine.E} (hx : G.ws[m]? = some x) (hc : notCall e = true) (hn : es.all notStar = true) (hl : es.length < 30) (hline : (apos.endLine == pos.line) = true)
    (h1 : Snd G g C N env names r e i) (h2 : SndEs G g C N env names r es is) (his : is.length = es.length) : Snd G g C N env names r (.Call (.Attribute e x apos) es [] pos) (.meth i m is) := fun loc hp Q X A s am h rm R => by
  dsimp only [wE_none, wE_bool, wE_int, wE_str, wE_loc, wE_glob, wE_bin, wE_not_, wE_cmp, wE_cmp2, wE_and_, wE_or_, wE_ite, wE_tup, wE_lst, wE_dct, wE_idx, wE_slc, wE_attr, wE_call, wE_new, wE_meth, wE_bi, wE_isi, wE_comp] at h
  refine call_method hc hn hl hline (wpAny_mono (h1 loc hp _ X A s am h rm R) (fun v s1 z => ?_) fun _ _ z => z)
  obtain ⟨c, p1, am1, z1, z2, z3, z4, z5⟩ := z
  have R1 := R.step z4 z3 z5
  intro pl
  cases z2 with
  | ref hm =>
    dsimp only at z1
    split at z1
    · rename_i cl fs hfs
      cases hg : g.meth cl m with
      | none => rw [hg] at z1; exact z1.elim
      | some f =>
        rw [hg, onSome_some] at z1
        obtain ⟨Ca, en, n, i1, i2, i3, i4, i5, i6, i7, i8, I⟩ := instAt z3 hfs hm
        obtain ⟨⟨k1, k1'⟩, k2, k3, k4, k5, k6⟩ := clsOk_get (GK.cls _ _ i1)
        obtain ⟨na, fa, m1, m2, m3⟩ := GK.meths _ _ m x f i1 hg hx
        have miss : getK fs m = none := by
          cases q : getK fs m with
          | none => rfl
          | some u =>
            exfalso
            have : ∃ w, (m, w) ∈ fs := by
              clear i4 i5 i8 hfs z1
              induction fs with
              | nil => simp [getK] at q
              | cons y ys ih =>
                obtain ⟨j, w⟩ := y
                simp only [getK] at q
                split at q
                · rename_i e; subst e; exact ⟨w, .head _⟩
                · obtain ⟨w', hw'⟩ := ih q; exact ⟨w', .tail _ hw'⟩
            obtain ⟨w, hw⟩ := this
            have := i8 _ hw
            rw [GK.at_] at this
            rw [na] at this; cases this
        refine method_fn (K := G.K) (GK.ok.x.keeps z3.base) I k1 k1' m2 (beq_iff_eq.mp m3) ?_ ?_
        · show (lookIn x (dictOf en n)).map _ = _
          rw [lookIn_dict]; unfold W.getL; rw [i4.miss GK.ok hx miss, i4.noRef]; rfl
        · refine callWith_es (P := fun h => ∀ b o, G.base.get? b = some o → h.get? b = some o) hn (fun hh kb => keeps_K (GK.fnKeep f fa m1) hh (GK.ok.x.keeps kb)) (wpAny_mono (h2 pos loc p1 _ X A s1 am1 z1 rm R1) (fun vals s2 y => ?_) fun _ _ y => y.back z4)
          obtain ⟨yl, vs, p2, am2, y1, y2, y3, y4, y5⟩ := y
          refine ⟨y3.base, wpAny_call (codeAny_mono (HC f fa _ p2 Q X A s2 am2 _ m1 y1 rm.c (R1.step y4 y3 y5).size y3 y5 (.cons (.ref (y4.map _ _ hm)) y2)) fun res s' w => ?_)⟩
          rcases res with e | (_ | _ | _ | v)
          · exact w.back (z4.trans y4)
          · exact w.elim
          · exact w.elim
          · exact w.elim
          · exact EvP.back (z4.trans y4) w
    · rename_i xs0 hx0
      have o := z3.objs _ _ _ hx0 hm
      cases o with
      | list g1 g2 g3 g4 =>
        rename_i a vs0 n0
        have ga : ∀ (nm : Str) (id : String), Slot "list" nm id → typeOf (.builtin id) = pure (.type "method_descriptor") → x = nm → ∀ T : Value × List Value → Shared → Prop, T (.builtin id, [.ref a]) s1 → wpAny (model G.prog G.w) A (getMethod (.ref a) x pl) T (XP G [] s am X) s1 := by
          intro nm id sl ty e T t
          subst e
          exact getMethod_builtin ⟨_, g1, rfl⟩ F.plainAttrs_list sl ty (fun a' e => by cases e; exact ⟨_, g1, rfl⟩) t
        have hk : ∀ (id : String) (h : Heap), (∀ b o, G.base.get? b = some o → h.get? b = some o) → ∃ k, (k = Keeper.frame ∨ k = Keeper.machine ∨ k = Keeper.boundFrame) ∧ Looks (model G.prog G.w) h (keeperOf (.builtin id)) k := fun id h _ => keeper_builtin
        split at z1
        · rename_i hemp
          obtain ⟨q1, q2⟩ := z1
          subst q1
          have hes : es = [] := by
            have : is = [] := by simpa using hemp
            rw [this] at his; exact List.length_eq_zero_iff.mp his.symm
          subst hes
          cases hlast : xs0.getLast? with
          | none => rw [hlast] at q2; exact q2.elim
          | some u =>
            rw [hlast, onSome_some] at q2
            refine ga "pop" "list.pop" F.slot_list_pop F.type_list_pop (Option.some.inj (hx.symm.trans GK.pop)) _ (callWith_es hn (hk _) (Calls.spliced_nil ⟨z3.base, ?_⟩))
            have ln := g2.length
            have hne : xs0.length ≠ 0 := by intro q; rw [List.length_eq_zero_iff.mp q] at hlast; simp at hlast
            rw [List.getLast?_eq_getElem?] at hlast
            obtain ⟨y, w1, w2⟩ := g2.get hlast
            have e1 : vs0.toArray.eraseIdxIfInBounds (vs0.toArray.size - 1) = vs0.dropLast.toArray := by
              rw [List.eraseIdxIfInBounds_toArray, List.size_toArray, List.eraseIdx_eq_take_drop_succ, List.dropLast_eq_take, List.drop_of_length_le (by (first | lia | omega)), List.append_nil]
            obtain ⟨n', hn'⟩ := listObj_update g1 (fun xs => xs.eraseIdxIfInBounds (vs0.toArray.size - 1)) e1
            have rd : RVs G.ws am1 s1.heap xs0.dropLast vs0.dropLast := by rw [List.dropLast_eq_take, List.dropLast_eq_take, ← ln]; exact g2.take _
            obtain ⟨t1, t2⟩ := z3.turnList (ys := xs0.dropLast) hx0 hm hn' rd (by simp only [List.length_dropLast]; (first | lia | omega))
            refine call_meets F.slot_list_pop ⟨_, g1, rfl⟩ F.entry_list_pop (F.args_list_pop_1 _) (MeetsSeq.list_pop_last a vs0.toArray n0 y (by rw [List.size_toArray, ← ln]; simpa using w1) (by rw [List.size_toArray, ← ln, sizeLine]; simp only [lim] at g3; (first | lia | omega))) ⟨g1, ?_⟩
            exact EvP.back z4 ⟨u, _, am1, q2, t2.rv w2, t1, t2, z5.heap _⟩
        · obtain ⟨q1, q2⟩ := z1
          subst q1
          refine ga "append" "list.append" F.slot_list_append F.type_list_append (Option.some.inj (hx.symm.trans GK.app)) _ (callWith_es hn (hk _) (wpAny_mono (h2 pos loc p1 _ X A s1 am1 q2 rm R1) (fun vals s2 y => ?_) fun _ _ y => y.back z4))
          obtain ⟨yl, vs, p2, am2, y1, y2, y3, y4, y5⟩ := y
          refine ⟨y3.base, ?_⟩
          split at y1
          · rename_i v
            split at y1
            · rename_i ys hys
              obtain ⟨c1, c2⟩ := y1
              have o2 := y3.objs _ _ _ hys (y4.map _ _ hm)
              cases o2 with
              | list g1 g2 g3 g4 =>
                rename_i vs1 n1
                have ln := g2.length
                cases y2 with
                | cons r1 r2 =>
                  cases r2
                  rename_i val
                  have e1 : vs1.toArray.push val = (vs1 ++ [val]).toArray := by simp
                  obtain ⟨n', hn'⟩ := listObj_update g1 (fun xs => xs.push val) e1
                  obtain ⟨t1, t2⟩ := y3.turnList (ys := ys ++ [v]) hys (y4.map _ _ hm) hn' (g2.append (.cons r1 .nil)) (by simp; (first | lia | omega))
                  refine call_meets F.slot_list_append ⟨_, g1, rfl⟩ F.entry_list_append (F.args_list_append_2 _ _) (PySem.list_append a vs1.toArray n1 val (by rw [List.size_toArray, ← ln, sizeLine]; simp only [lim] at g3; (first | lia | omega))) ⟨g1, ?_⟩
                  exact EvP.back (z4.trans y4) ⟨.none, _, am2, c2, .none, t1, t2, ⟨y5.gens, y5.os⟩⟩
            · exact y1.elim
          · exact y1.elim
    · exact z1.elim
  | _ => exact z1.elim
end
end Mine

end
noncomputable section
namespace Mine
open PySem PySem.W PyProof.Rows

theorem roomC_under {X : Nat → Hp → Prop} {A : Around} {r : Nat} {Ca : Addr} {rest : List Value} (x : Room X A (r + 1)) : RoomC X (A.under (.builtin "type.__call__" ⟨.ref Ca :: rest, []⟩)) r := by
  obtain ⟨env, l, hf, -⟩ := x.frames
  have w : (Code.builtin "type.__call__" ⟨.ref Ca :: rest, []⟩).weight = 1 := by rfl
  have u : (Code.builtin "type.__call__" ⟨.ref Ca :: rest, []⟩).cUnits = 1 := by rfl
  have e : (Code.builtin "type.__call__" ⟨.ref Ca :: rest, []⟩).envs = [] := by rfl
  refine ⟨?_, ?_, x.handled, ⟨env :: l, ?_⟩, x.noX⟩
  · show A.depth + (Code.builtin "type.__call__" ⟨.ref Ca :: rest, []⟩).weight + r + 101 ≤ _
    rw [w]; have := x.depth; (first | lia | omega)
  · show A.units + (Code.builtin "type.__call__" ⟨.ref Ca :: rest, []⟩).cUnits + 10 * r + 300 ≤ _
    rw [u]; have := x.units; (first | lia | omega)
  · show pushEnvs (Code.builtin "type.__call__" ⟨.ref Ca :: rest, []⟩).envs A.frames = _
    rw [e]; exact hf

section
variable {G : Glb} {g : Genv} {C N : Oracle} {env : Env} {names : List (Str × NameKind)} {r : Nat}

theorem snd_new (GK : GG G g) (O : EnvOk env names) {rn : Nat} (HN : CallOk G N rn) (hrn : r = rn + 1 ∨ ∀ f vs hp Q X, ¬ N f vs hp Q X) {x : Str} {p pos : Pos} {es : List PySem.Expr} {is : List Mine.E} {c : Nat} {Ca : Addr} (hk : env.kindOf x = some .globalImplicit) (hd : (x == ("__debug__" : Str)) = false) (hc : G.cls c = some Ca)
    (e : nsIn G.K mainGlobals x = some (some (.ref Ca))) (hn : es.all notStar = true) (h1 : SndEs G g C N env names r es is) : Snd G g C N env names r (.Call (.Name x p) es [] pos) (.new c is) := fun loc hp Q X A s am h rm R => by
  dsimp only [wE_none, wE_bool, wE_int, wE_str, wE_loc, wE_glob, wE_bin, wE_not_, wE_cmp, wE_cmp2, wE_and_, wE_or_, wE_ite, wE_tup, wE_lst, wE_dct, wE_idx, wE_slc, wE_attr, wE_call, wE_new, wE_meth, wE_bi, wE_isi, wE_comp] at h
  obtain ⟨⟨k1, k1'⟩, k2, k3, k4, k5, k6⟩ := clsOk_get (GK.cls _ _ hc)
  refine call_name R rm hn (fun hh kb => keeps_K k6 hh (GK.ok.x.keeps kb)) (fun U u => snd_global GK O R hk hd e u) h1 h fun vs vals p1 s1 am1 k rv R1 a1 _ => ?_
  cases hi : g.init c with
  | none => rw [hi] at k; exact k.elim
  | some f =>
    rw [hi, onSome_some] at k
    obtain ⟨C', fa, i1, i2, i3, i4⟩ := GK.init c f hi
    rw [hc] at i1; cases i1
    rcases hrn with hrn | hrn
    · subst hrn
      obtain ⟨hh, gn, dd, tt, os⟩ := s1
      have Xk := GK.ok.x.keeps R1.hr.base
      have kp : ∀ b o, hh.get? b = some o → ((hh.push emptyDict).push (instObj Ca hh.objs.size)).get? b = some o := fun b o e => Heap.get?_push_of_some _ (Heap.get?_push_of_some _ e)
      have n1 : hh.get? (hh.objs.size + 1) = none := get_none_of_size1
      have n2 : hh.get? hh.objs.size = none := get_none_of_size
      have bn : ∀ a, hh.get? a = none → G.base.get? a = none := fun a q => by
        cases z : G.base.get? a with
        | none => rfl
        | some o => have := R1.hr.base _ _ z; rw [q] at this; cases this
      have gx : ((hh.push emptyDict).push (instObj Ca hh.objs.size)).get? (hh.objs.size + 1) = some (instObj Ca hh.objs.size) := by
        have := Heap.get?_push_size (o := instObj Ca hh.objs.size) (hh.push emptyDict) rfl
        rwa [Heap.size_push] at this
      have gd : ((hh.push emptyDict).push (instObj Ca hh.objs.size)).get? hh.objs.size = some (dictOf [] 0) := Heap.get?_push_of_some _ (Heap.get?_push_size _ rfl)
      have hr2 : HR G (am1 ++ [(hh.objs.size + 1, hh.objs.size)]) ((hh.push emptyDict).push (instObj Ca hh.objs.size)) (p1 ++ [.inst c []]) :=
        R1.hr.more kp n2 (.inst hc gx gd .nil (by simp) (bn _ n1) (bn _ n2) (by simp))
      have af : Aft [] hh am1 ((hh.push emptyDict).push (instObj Ca hh.objs.size)) (am1 ++ [(hh.objs.size + 1, hh.objs.size)]) := Aft.more kp n1 n2
      have last : (am1 ++ [(hh.objs.size + 1, hh.objs.size)])[p1.length]? = some (hh.objs.size + 1, hh.objs.size) := by rw [← R1.hr.len]; exact am_last _
      refine wpAny_call (make_core (makes_of Xk k3) (looks_findIn Xk i3) (fun self => bind_fn Xk self (beq_iff_eq.mp i4)) (.inl rfl) ?_)
      refine codeAny_mono (HN f fa _ _ _ X (A.under (.builtin "type.__call__" ⟨.ref Ca :: vals, []⟩)) ⟨(hh.push emptyDict).push (instObj Ca hh.objs.size), gn, dd, tt, os⟩ _ (.ref (hh.objs.size + 1) :: vals) i2 k (roomC_under rm) (by have q : G.base.objs.size ≤ hh.objs.size := R1.size; simp only [Heap.size_push]; exact Nat.le_trans q (Nat.le_trans (Nat.le_succ _) (Nat.le_succ _))) hr2 ⟨R1.same.gens, R1.same.os⟩ (.cons (.ref last) (af.rvs rv))) fun res s' w => ?_
      rcases res with e | (_ | _ | _ | v)
      · exact w.back (a1.trans af)
      · exact w.elim
      · exact w.elim
      · exact w.elim
      · obtain ⟨u, p3, am3, ⟨w0, w1⟩, w2, w3, w4, w5⟩ := w
        subst w0
        cases w2
        exact ⟨rfl, EvP.back (a1.trans af) ⟨.ref p1.length, p3, am3, w1, .ref (w4.map _ _ last), w3, w4, w5⟩⟩
    · exact absurd k (hrn _ _ _ _ _)
end
end Mine

end
noncomputable section
namespace Mine
open PySem PySem.W PyProof.Rows

section
variable {G : Glb} {g : Genv} {C N : Oracle} {env : Env} {names : List (Str × NameKind)} {r : Nat} {s : Shared} {am : AM} {hp : Hp} {A : Around} {E : Value → Shared → Prop} {Q : V → Hp → Prop}

theorem evp_list_at {h' : Heap} {D : Addr} {xs : List V} {vs : List Value} {c : Nat} {tk : Nat} (x : HR G am s.heap hp) (sm : Same G s) (rv : RVs G.ws am s.heap xs vs) (l : xs.length ≤ lim) (q : Q (.ref hp.length) (hp ++ [.list xs])) (k : ∀ b o, s.heap.get? b = some o → h'.get? b = some o)
    (hD : h'.get? D = some (listObj vs c)) (hn : s.heap.get? D = none) : EvP G s am Q (.ref D) { s with heap := h', toks := tk } := by
  have le : AM.Le am (am ++ [(D, D)]) := fun i q e => by rw [List.getElem?_append_left (by obtain ⟨z, _⟩ := List.getElem?_eq_some_iff.mp e; exact z)]; exact e
  have b : G.base.get? D = none := by
    cases c : G.base.get? D with
    | none => rfl
    | some o => have := x.base _ _ c; rw [hn] at this; cases this
  refine ⟨.ref hp.length, hp ++ [.list xs], am ++ [(D, D)], q, ?_, ?_, ?_, ⟨sm.gens, sm.os⟩⟩
  · have : (am ++ [(D, D)])[hp.length]? = some (D, D) := by rw [← x.len]; exact am_last _
    exact .ref this
  · exact x.more k hn (.list hD (rv.mono (fun _ _ t => t.keeps k) le) l b)
  · exact Aft.more k hn hn
theorem evp_keep {h' : Heap} {tk : Nat} {v : V} {val : Value} (x : HR G am s.heap hp) (sm : Same G s) (rv : RV G.ws am s.heap v val) (q : Q v hp) (k : ∀ b o, s.heap.get? b = some o → h'.get? b = some o) : EvP G s am Q val { s with heap := h', toks := tk } :=
  ⟨v, hp, am, q, rv.mono (fun _ _ t => t.keeps k) (fun _ _ e => e), x.keepAll k, Aft.ofKeep k, ⟨sm.gens, sm.os⟩⟩

noncomputable def biV : Bi → Value
  | .len => .builtin "len" | .int => .type "int" | .list => .type "list" | .tuple => .type "tuple" | .max => .builtin "max" | .min => .builtin "min" | .sum => .builtin "sum"
noncomputable def biN : Bi → Str
  | .len => "len" | .int => "int" | .list => "list" | .tuple => "tuple" | .max => "max" | .min => "min" | .sum => "sum"

theorem sumL_ints {xs : List V} {vs : List Value} {i : Int} (r : RVs G.ws am s.heap xs vs) (e : sumL xs = some i) : AllInts vs.toArray ∧ (numsOf vs).sum = i := by
  induction xs generalizing vs i with
  | nil => cases r; cases e; exact ⟨by intro v hv; simp at hv, rfl⟩
  | cons x xs ih =>
    cases r with
    | cons r1 r2 => cases r1 with
      | int i t =>
        obtain ⟨j, e1, e2⟩ := map_some' (show (sumL xs).map _ = some _ from e)
        subst e2
        obtain ⟨a1, a2⟩ := ih r2 e1
        refine ⟨?_, ?_⟩
        · intro v hv
          simp only [List.mem_toArray, List.mem_cons] at hv
          rcases hv with rfl | hv
          · exact ⟨_, _, rfl⟩
          · exact a1 v (by simpa using hv)
        · simp [numsOf, ← a2]
      | _ => cases e

theorem one_arg {vs : List V} {vals : List Value} {v : V} (e : arg1 vs = some v) (rv : RVs G.ws am s.heap vs vals) : ∃ val, vals = [val] ∧ RV G.ws am s.heap v val := by
  rw [arg1_some e] at rv
  cases rv with
  | cons r1 r2 => cases r2; exact ⟨_, rfl, r1⟩
theorem two_arg {vs : List V} {vals : List Value} {v : V × V} (e : arg2 vs = some v) (rv : RVs G.ws am s.heap vs vals) : ∃ a b, vals = [a, b] ∧ RV G.ws am s.heap v.1 a ∧ RV G.ws am s.heap v.2 b := by
  rw [arg2_some e] at rv
  cases rv with
  | cons r1 r2 => cases r2 with
    | cons r2 r3 => cases r3; exact ⟨_, _, rfl, r1, r2⟩
theorem list_arg (x : HR G am s.heap hp) {v : V} {val : Value} {xs : List V} (e : lstOf v hp = some xs) (rv : RV G.ws am s.heap v val) : ∃ a vs n ob, val = .ref a ∧ s.heap.get? a = some ob ∧ ob.cls = .type "list" ∧ ob.data = .seq vs.toArray n ∧ RVs G.ws am s.heap xs vs ∧ xs.length ≤ lim := by
  obtain ⟨p, rfl, ho⟩ := lstOf_some e
  cases rv with
  | ref m =>
    obtain ⟨vs, n, ob, h1, h2, h3, h4, h5⟩ := x.items ho rfl m
    exact ⟨_, vs, n, ob, rfl, h1, h2, h3, h4, h5⟩

theorem bi_ok {X : Nat → Hp → Prop} (rm : Room X A r) (x : HR G am s.heap hp) (sm : Same G s) {b : Bi} {vs : List V} {vals : List Value} {p : V × Hp} (e : biop b vs hp = some p) (rv : RVs G.ws am s.heap vs vals) (q : Q p.1 p.2) : wpAny (model G.prog G.w) A (call (biV b) vals) (EvP G s am Q) E s := by
  cases b with
  | len =>
    obtain ⟨v, e1, e2⟩ := bind_some (show (arg1 vs).bind _ = some p from e)
    obtain ⟨val, rfl, r1⟩ := one_arg e1 rv
    obtain ⟨n, e3, e4⟩ := map_some' e2
    subst e4
    clear e e2
    change (match v.asTup with | some xs => some xs.length | none => (itmOf v hp).map List.length) = some n at e3
    cases ht : v.asTup with
    | some xs =>
      rw [ht] at e3
      cases e3
      rw [asTup_some ht] at r1
      cases r1 with
      | tup i rs l =>
        have ln := rs.length
        refine PyProof.Rows.len_tuple i (by simp only [List.size_toArray, ← ln]; simp only [lim] at l; (first | lia | omega)) ?_
        rw [List.size_toArray, ← ln]
        exact evp_here (v := .int _) q (.int _ _) x rfl ⟨sm.gens, sm.os⟩
    | none =>
      rw [ht] at e3
      obtain ⟨xs, e5, e6⟩ := map_some' e3
      subst e6
      obtain ⟨ad, o, rfl, ho, hi⟩ := itmOf_some e5
      cases r1 with
      | ref m =>
        obtain ⟨vs, n, ob, h1, h2, h3, h4, h5⟩ := x.items ho hi m
        have ln := h4.length
        refine Calls.call_len_list ⟨ob, h1, h2, n, h3⟩ (by simp only [List.size_toArray, ← ln]; simp only [lim] at h5; (first | lia | omega)) ?_
        rw [List.size_toArray, ← ln]
        exact evp_here (v := .int _) q (.int _ _) x rfl ⟨sm.gens, sm.os⟩
  | int =>
    obtain ⟨v, e1, e2⟩ := bind_some (show (arg1 vs).bind _ = some p from e)
    obtain ⟨val, rfl, r1⟩ := one_arg e1 rv
    obtain ⟨n, e3, e4⟩ := map_some' e2
    subst e4
    clear e e2
    change (match v.asBool with | some b => some (if b then 1 else 0) | none => v.asInt) = some n at e3
    cases ht : v.asBool with
    | some c =>
      rw [ht] at e3
      cases e3
      rw [asBool_some ht] at r1
      cases r1
      exact call_int_bool (evp_here (v := .int _) q (.int _ _) x rfl ⟨sm.gens, sm.os⟩)
    | none =>
      rw [ht] at e3
      rw [asInt_some e3] at r1
      cases r1
      exact call_int_int (evp_here (v := .int _) q (.int _ _) x rfl sm)
  | list =>
    obtain ⟨v, e1, e2⟩ := bind_some (show (arg1 vs).bind _ = some p from e)
    obtain ⟨val, rfl, r1⟩ := one_arg e1 rv
    obtain ⟨xs, e3, e4⟩ := map_some' e2
    subst e4
    obtain ⟨ad, us, n, ob, rfl, h1, h2, h3, h4, h5⟩ := list_arg x e3 r1
    have ln := h4.length
    exact call_list_seq (hsz := by rw [List.size_toArray, ← ln, sizeLine]; simp only [lim] at h5; (first | lia | omega)) _ (.inl rfl) h1 h2 h3 fun h' c' hk hD => evp_list_at x sm h4 h5 q hk hD get_none_of_size
  | tuple =>
    obtain ⟨v, e1, e2⟩ := bind_some (show (arg1 vs).bind _ = some p from e)
    obtain ⟨val, rfl, r1⟩ := one_arg e1 rv
    obtain ⟨xs, e3, e4⟩ := map_some' e2
    subst e4
    obtain ⟨ad, us, n, ob, rfl, h1, h2, h3, h4, h5⟩ := list_arg x e3 r1
    have ln := h4.length
    refine call_tuple_list ⟨ob, h1, h2, n, h3⟩ (fun h' hk => ?_) (by rw [List.size_toArray, ← ln, sizeLine]; simp only [lim] at h5; (first | lia | omega))
    have k2 : ∀ b o, s.heap.get? b = some o → (h'.push { cls := .type "tuple", data := .seq us.toArray }).get? b = some o := fun b o e => Heap.get?_push_of_some _ (hk b o e)
    exact ⟨.tup xs, hp, am, q, .tup ⟨_, Heap.get?_push_size _ rfl, rfl, _, rfl⟩ (h4.mono (fun _ _ t => t.keeps k2) (fun _ _ e => e)) h5, x.keepAll k2, Aft.ofKeep k2, ⟨sm.gens, sm.os⟩⟩
  | max =>
    obtain ⟨v, e1, e2⟩ := bind_some (show (arg2 vs).bind _ = some p from e)
    obtain ⟨va, vb, rfl, r1, r2⟩ := two_arg e1 rv
    obtain ⟨i, e3, e4⟩ := bind_some e2
    obtain ⟨j, e5, e6⟩ := map_some' e4
    subst e6
    rw [asInt_some e3] at r1
    rw [asInt_some e5] at r2
    cases r1; cases r2
    refine max_two_ints rm.handled fun h' tk hk => ?_
    by_cases hlt : i < j
    · rw [if_pos hlt]; exact evp_keep x sm (.int _ _) (by simpa only [if_pos hlt] using q) hk
    · rw [if_neg hlt]; exact evp_keep x sm (.int _ _) (by simpa only [if_neg hlt] using q) hk
  | min =>
    obtain ⟨v, e1, e2⟩ := bind_some (show (arg2 vs).bind _ = some p from e)
    obtain ⟨va, vb, rfl, r1, r2⟩ := two_arg e1 rv
    obtain ⟨i, e3, e4⟩ := bind_some e2
    obtain ⟨j, e5, e6⟩ := map_some' e4
    subst e6
    rw [asInt_some e3] at r1
    rw [asInt_some e5] at r2
    cases r1; cases r2
    refine min_two_ints rm.handled fun h' tk hk => ?_
    by_cases hlt : j < i
    · rw [if_pos hlt]; exact evp_keep x sm (.int _ _) (by simpa only [if_pos hlt] using q) hk
    · rw [if_neg hlt]; exact evp_keep x sm (.int _ _) (by simpa only [if_neg hlt] using q) hk
  | sum =>
    obtain ⟨v, e1, e2⟩ := bind_some (show (arg1 vs).bind _ = some p from e)
    obtain ⟨val, rfl, r1⟩ := one_arg e1 rv
    obtain ⟨xs, e3, e4⟩ := bind_some e2
    obtain ⟨i, e5, e6⟩ := map_some' e4
    subst e6
    obtain ⟨ad, us, n, ob, rfl, h1, h2, h3, h4, h5⟩ := list_arg x e3 r1
    obtain ⟨a1, a2⟩ := sumL_ints h4 e5
    obtain ⟨ys, hys⟩ := a1.items
    refine sum_intListG rm.handled (xs := ys) (by rw [← hys]; exact ⟨ob, h1, h2, n, h3⟩) fun h' tk t' hk => ?_
    have e2 : (ys.toList.map (·.1)).sum = i := by
      rw [← nums_intItems, ← hys]; exact a2
    rw [preSum_eq, List.take_of_length_le (by simp), e2]
    exact evp_keep x sm (.int _ _) q hk

theorem snd_bi (GK : GG G g) (O : EnvOk env names) {b : Bi} {p pos : Pos} {es : List PySem.Expr} {is : List Mine.E} (hk : env.kindOf (biN b) = some .globalImplicit) (hm : nsIn G.K mainGlobals (biN b) = some none) (hn : es.all notStar = true) (h1 : SndEs G g C N env names r es is) :
    Snd G g C N env names r (.Call (.Name (biN b) p) es [] pos) (.bi b is) := fun loc hp Q X A s am h rm R => by
  dsimp only [wE_none, wE_bool, wE_int, wE_str, wE_loc, wE_glob, wE_bin, wE_not_, wE_cmp, wE_cmp2, wE_and_, wE_or_, wE_ite, wE_tup, wE_lst, wE_dct, wE_idx, wE_slc, wE_attr, wE_call, wE_new, wE_meth, wE_bi, wE_isi, wE_comp] at h
  have hd : (biN b == ("__debug__" : Str)) = false := by cases b <;> decide
  have hb : bootBuiltins (biN b) = some (biV b) := by cases b <;> decide +kernel
  have hnn : biN b ≠ "__name__" := by cases b <;> decide
  refine call_name R rm hn (fun hh _ => by cases b <;> first | exact keeper_builtin | exact keeper_type) (fun U u => snd_builtin GK O R hk hd hm hb hnn u) h1 h fun vs vals p1 s1 am1 k rv R1 a1 _ => ?_
  cases e : biop b vs p1 with
  | none => rw [e] at k; exact k.elim
  | some p =>
    rw [e, onSome_some] at k
    exact wpAny_mono (bi_ok rm R1.hr R1.same e rv k) (fun _ _ z => z.back a1) fun _ _ z => z
end
end Mine

end
noncomputable section
namespace Mine
open PySem PySem.W PyProof.Rows

noncomputable def tyS : Ty → Option String
  | .int => some "int" | .bool => some "bool" | .str => some "str" | .tuple => some "tuple" | .list => some "list" | .own _ => none

noncomputable def tyOk (t : String) : Prop := t = "int" ∨ t = "bool" ∨ t = "str" ∨ t = "tuple" ∨ t = "list"
theorem tyS_ok {t : Ty} {T : String} (h : tyS t = some T) : tyOk T := by cases t <;> simp [tyS] at h <;> subst h <;> simp [tyOk]
theorem ty_type {T : String} (h : tyOk T) : typeOf (.type T) = pure (.type "type") := by
  rcases h with rfl | rfl | rfl | rfl | rfl <;> rfl
theorem ty_sub {a b : String} (h1 : tyOk a) (h2 : tyOk b) : isSubtype (.type a) (.type b) = pure (decide (a = b) || (decide (a = "bool") && decide (b = "int"))) := by
  rcases h1 with rfl | rfl | rfl | rfl | rfl <;> rcases h2 with rfl | rfl | rfl | rfl | rfl <;> (rw [isSubtype_type]; kernel_rfl)
theorem ty_boot {T : String} (h : tyOk T) : bootBuiltins (Str.ofString T) = some (.type T) := by
  rcases h with rfl | rfl | rfl | rfl | rfl <;> decide +kernel

section
variable {G : Glb} {g : Genv} {C N : Oracle} {env : Env} {names : List (Str × NameKind)} {r : Nat} {s : Shared} {am : AM} {hp : Hp} {A : Around} {E : Value → Shared → Prop} {Q : V → Hp → Prop}

noncomputable def tyN (k : Nat) : String := match k with | 0 => "int" | 1 => "bool" | 2 => "str" | 3 => "tuple" | _ => "list"
theorem tyN_ok (k : Nat) : tyOk (tyN k) := by
  unfold tyN
  split <;> simp [tyOk]
theorem tyN_code {t : Ty} {T : String} (hT : tyS t = some T) : T = tyN t.code ∧ t.code < 5 := by
  cases t <;> cases hT <;> exact ⟨rfl, by decide⟩
theorem tyN_inj {j k : Nat} (hj : j < 5) (hk : k < 5) (h : j ≠ k) : tyN j ≠ tyN k := by
  have hj' : j = 0 ∨ j = 1 ∨ j = 2 ∨ j = 3 ∨ j = 4 := by (first | lia | omega)
  have hk' : k = 0 ∨ k = 1 ∨ k = 2 ∨ k = 3 ∨ k = 4 := by (first | lia | omega)
  rcases hj' with rfl | rfl | rfl | rfl | rfl <;> rcases hk' with rfl | rfl | rfl | rfl | rfl <;> first | exact absurd rfl h | decide

theorem isi_ok (x : HR G am s.heap hp) (sm : Same G s) {v : V} {val : Value} {t : Ty} {T : String} {b : Bool} (hT : tyS t = some T) (e : isiop v t hp = some b) (rv : RV G.ws am s.heap v val) (q : Q (.bool b) hp) : wpAny (model G.prog G.w) A (call (.builtin "isinstance") [val, .type T]) (EvP G s am Q) E s := by
  have ok := tyS_ok hT
  obtain ⟨hTn, hc⟩ := tyN_code hT
  have fin : ∀ tk, EvP G s am Q (.bool b) { s with toks := tk } := fun tk => evp_here (v := .bool b) q (.bool b) x rfl ⟨sm.gens, sm.os⟩
  have fin0 : EvP G s am Q (.bool b) s := evp_here (v := .bool b) q (.bool b) x rfl sm
  have yes : ∀ Tx, tyOk Tx → s.TypeIs val Tx → (decide (Tx = T) || (decide (Tx = "bool") && decide (T = "int"))) = true → b = true → wpAny (model G.prog G.w) A (call (.builtin "isinstance") [val, .type T]) (EvP G s am Q) E s := by
    intro Tx h1 h2 h3 h4
    subst h4
    exact call_isinstance (isinstance_true (Tx := Tx) (ty_type ok) ((ty_sub h1 ok).trans (by rw [h3]))) ⟨h2, fin0⟩
  obtain ⟨k, ek, e⟩ := bind_some e
  by_cases h1 : k = 1
  · rw [if_neg (fun z => z.1 h1)] at e
    obtain ⟨h2, e⟩ := if_some e
    cases e
    have hv : ∃ c, val = .bool c := by
      subst h1
      cases rv with
      | bool c => exact ⟨c, rfl⟩
      | ref m =>
        obtain ⟨o, e1, e2⟩ := map_some' (show ((hp[_]?).bind O.asL).map (fun _ => 4) = some 1 from ek)
        cases e2
      | _ => cases ek
    obtain ⟨c, rfl⟩ := hv
    refine yes "bool" (by simp [tyOk]) (PyProof.Rows.typeIs_bool s c) ?_ rfl
    have : t.code = 0 ∨ t.code = 1 := by (first | lia | omega)
    rcases this with z | z <;> rw [hTn, z] <;> decide
  · rw [if_pos ⟨h1, hc⟩] at e
    cases e
    have st : ∀ j, j < 5 → j ≠ 1 → k = j → s.TypeIs val (tyN j) → (∀ {Q' : Value → Shared → Prop}, k ≠ t.code → (∀ tk, Q' (.bool false) { s with toks := tk }) → wpAny (model G.prog G.w) A (call (.builtin "isinstance") [val, .type T]) Q' E s) → wpAny (model G.prog G.w) A (call (.builtin "isinstance") [val, .type T]) (EvP G s am Q) E s := by
      intro j hj hj1 hk ty no
      by_cases hq : k = t.code
      · refine yes (tyN j) (tyN_ok j) ty ?_ (by rw [hq]; exact beq_self_eq_true _)
        rw [hTn, ← hq, hk]; simp
      · refine no hq fun tk => ?_
        have : (k == t.code) = false := beq_eq_false_iff_ne.mpr hq
        rw [this] at fin
        exact fin tk
    have nsub : ∀ j, j < 5 → j ≠ 1 → j ≠ t.code → isSubtype (.type (tyN j)) (.type T) = pure false := by
      intro j hj hj1 hq
      rw [ty_sub (tyN_ok j) ok, decide_eq_false (by rw [hTn]; exact tyN_inj hj hc hq), decide_eq_false (p := tyN j = "bool") (tyN_inj (k := 1) hj (by decide) hj1)]
      rfl
    have nty : ∀ j, j < 5 → j ≠ t.code → tyN j ≠ T := fun j hj hq z => tyN_inj hj hc hq (by rw [← hTn]; exact z)
    cases rv with
    | int i u =>
      have hk : k = 0 := by cases ek; rfl
      exact st 0 (by decide) (by decide) hk (typeIs_int s i u) fun {Q'} hq f => call_isinstance (isinstance_false_int (by simpa using (show ("int" : String) ≠ T from nty 0 (by decide) (by (first | lia | omega)))) (ty_type ok) (nsub 0 (by decide) (by decide) (by (first | lia | omega)))) (f _)
    | str u hw =>
      have hk : k = 2 := by cases ek; rfl
      exact st 2 (by decide) (by decide) hk (typeIs_str s _ u) fun {Q'} hq f => call_isinstance (isinstance_false_str (by simpa using (show ("str" : String) ≠ T from nty 2 (by decide) (by (first | lia | omega)))) (ty_type ok) (nsub 2 (by decide) (by decide) (by (first | lia | omega)))) (f _)
    | tup i rs l =>
      have hk : k = 3 := by cases ek; rfl
      obtain ⟨o, h1, h2, h3⟩ := i
      exact st 3 (by decide) (by decide) hk ⟨o, h1, h2⟩ fun {Q'} hq f => call_isinstance (isinstance_false_tuple (by simpa using (show ("tuple" : String) ≠ T from nty 3 (by decide) (by (first | lia | omega)))) (ty_type ok) (nsub 3 (by decide) (by decide) (by (first | lia | omega)))) ⟨⟨o, h1, h2⟩, f _⟩
    | ref m =>
      obtain ⟨xs, e1, e2⟩ := map_some' (show ((hp[_]?).bind O.asL).map (fun _ => 4) = some k from ek)
      have hk : k = 4 := e2.symm
      obtain ⟨o, e3, e4⟩ := bind_some e1
      rw [asL_some e4] at e3
      obtain ⟨vs, n, ob, h1, h2, h3, h4, h5⟩ := x.items e3 rfl m
      exact st 4 (by decide) (by decide) hk ⟨ob, h1, h2⟩ fun {Q'} hq f => call_isinstance (isinstance_false_list (by simpa using (show ("list" : String) ≠ T from nty 4 (by decide) (by (first | lia | omega)))) (ty_type ok) (nsub 4 (by decide) (by decide) (by (first | lia | omega)))) ⟨⟨ob, h1, h2⟩, f _⟩
    | bool c => cases ek; exact absurd rfl h1
    | none => cases ek

theorem snd_isi (GK : GG G g) (O : EnvOk env names) {t : Ty} {T : String} {p p2 pos : Pos} {e : PySem.Expr} {i : Mine.E} (hT : tyS t = some T) (hk : env.kindOf "isinstance" = some .globalImplicit) (hm : nsIn G.K mainGlobals "isinstance" = some none)
    (hk2 : env.kindOf (Str.ofString T) = some .globalImplicit) (hm2 : nsIn G.K mainGlobals (Str.ofString T) = some none) (hn : notStar e = true) (h1 : Snd G g C N env names r e i) :
    Snd G g C N env names r (.Call (.Name "isinstance" p) [e, .Name (Str.ofString T) p2] [] pos) (.isi i t) := fun loc hp Q X A s am h rm R => by
  dsimp only [wE_none, wE_bool, wE_int, wE_str, wE_loc, wE_glob, wE_bin, wE_not_, wE_cmp, wE_cmp2, wE_and_, wE_or_, wE_ite, wE_tup, wE_lst, wE_dct, wE_idx, wE_slc, wE_attr, wE_call, wE_new, wE_meth, wE_bi, wE_isi, wE_comp] at h
  rw [eval_Call_plain ⟨_, _, rfl⟩]
  refine wpAny_bind (snd_builtin GK O R hk (by decide) hm (v := .builtin "isinstance") (by decide +kernel) (by decide) ?_)
  refine callWith_es (P := fun _ => True) (by simp only [List.all_cons, hn, List.all_nil, Bool.true_and, Bool.and_true]; rfl) (fun _ _ => keeper_builtin) ?_
  rw [starEach_cons hn, starEach_cons (by rfl)]
  refine Calls.spliced_cons (wpAny_mono (h1 loc hp _ X A s am h rm R) (fun v s1 z => ?_) fun _ _ z => z)
  obtain ⟨c, p1, am1, z1, z2, z3, z4, z5⟩ := z
  have ok := tyS_ok hT
  refine Calls.spliced_cons (snd_builtin GK O (R.step z4 z3 z5) hk2 ?_ hm2 (ty_boot ok) ?_ (Calls.spliced_nil ⟨trivial, ?_⟩))
  · rcases ok with rfl | rfl | rfl | rfl | rfl <;> decide
  · rcases ok with rfl | rfl | rfl | rfl | rfl <;> decide
  · cases e : isiop c t p1 with
    | none => rw [e] at z1; exact z1.elim
    | some b =>
      rw [e, onSome_some] at z1
      exact wpAny_mono (isi_ok z3 z5 hT e z2 z1) (fun _ _ y => y.back z4) fun _ _ y => y

theorem evalPart_some {e : PySem.Expr} : evalPart (some e) env = eval e env := rfl

theorem cut_pick {xs : List V} {vs : List Value} {lo hi : Option Nat} (rv : RVs G.ws am s.heap xs vs) : ∃ us, slicePick vs.toArray (lo.map Int.ofNat) (hi.map Int.ofNat) none = us.toArray ∧ RVs G.ws am s.heap (cut xs lo hi) us := by
  have key : ∀ (a b : Nat), (vs.drop (min a vs.length)).take (min b vs.length - min a vs.length) = (vs.take b).drop a := by
    intro a b
    rw [List.drop_take]
    rcases Nat.le_total a vs.length with h | h
    · rw [Nat.min_eq_left h]
      rcases Nat.le_total b vs.length with h' | h'
      · rw [Nat.min_eq_left h']
      · rw [Nat.min_eq_right h', List.take_of_length_le (by simp), List.take_of_length_le (by simp; (first | lia | omega))]
    · rw [Nat.min_eq_right h, List.drop_of_length_le (Nat.le_refl _), List.drop_of_length_le h]; simp
  cases lo with
  | none => cases hi with
    | none => exact ⟨vs, by simp [slicePick_all], rv⟩
    | some b => exact ⟨vs.take b, by simpa using slicePick_upto' vs.toArray b, rv.take b⟩
  | some a => cases hi with
    | none => exact ⟨vs.drop a, by simpa using slicePick_from' vs.toArray a, rv.drop a⟩
    | some b =>
      refine ⟨(vs.take b).drop a, ?_, (rv.take b).drop a⟩
      show slicePick vs.toArray (some (a : Int)) (some (b : Int)) none = _
      rw [slicePick_plain]
      simp only [Option.elim, clipAt_nat, List.size_toArray]
      rw [key]

end
end Mine

end
noncomputable section
namespace Mine
open PySem PySem.W PyProof.Rows

section
variable {G : Glb} {g : Genv} {C N : Oracle} {env : Env} {names : List (Str × NameKind)} {r : Nat} {s : Shared} {am : AM} {hp : Hp} {A : Around} {E : Value → Shared → Prop} {Q : V → Hp → Prop}

noncomputable def SndO (G : Glb) (g : Genv) (C N : Oracle) (env : Env) (names : List (Str × NameKind)) (r : Nat) : Option PySem.Expr → Mine.E → Prop
  | none, i => i = .none
  | some e, i => Snd G g C N env names r e i
theorem sndO_ev {e : Option PySem.Expr} {i : Mine.E} (h : SndO G g C N env names r e i) (loc : Locs) (hp : Hp) (Q : V → Hp → Prop) (X : Nat → Hp → Prop) (A : Around) (s : Shared) (am : AM) (h1 : wpE g C N loc i hp Q X) (rm : Room X A r) (R : Rel G env names s am loc hp) :
    wpAny (model G.prog G.w) A (evalPart e env) (EvP G s am Q) (XP G [] s am X) s := by
  cases e with
  | none => simp only [SndO] at h; subst h; dsimp only [wE_none, wE_bool, wE_int, wE_str, wE_loc, wE_glob, wE_bin, wE_not_, wE_cmp, wE_cmp2, wE_and_, wE_or_, wE_ite, wE_tup, wE_lst, wE_dct, wE_idx, wE_slc, wE_attr, wE_call, wE_new, wE_meth, wE_bi, wE_isi, wE_comp] at h1; exact wpAny_pure (evp_here h1 .none R.hr rfl R.same)
  | some e => exact h loc hp Q X A s am h1 rm R

theorem bnd_part {v : V} {val : Value} {h : Heap} {l : Option Nat} (e : bnd v = some l) (rv : RV G.ws am h v val) : IsPart val (l.map Int.ofNat) := by
  cases rv with
  | none => simp [bnd] at e; subst e; exact .none
  | int i t =>
    simp only [bnd] at e
    split at e
    · cases e; rename_i h0; have : (Int.ofNat i.toNat) = i := by simp; (first | lia | omega)
      simp only [Option.map_some, this]; exact .int i t
    · cases e
  | _ => simp [bnd] at e

theorem cut_len (xs : List V) (lo hi : Option Nat) : (cut xs lo hi).length ≤ xs.length := by
  unfold cut
  cases lo <;> cases hi <;> simp <;> (first | lia | omega)

theorem snd_slc {e1 : PySem.Expr} {lo hi : Option PySem.Expr} {i1 i2 i3 : Mine.E} {p pos : Pos} (h1 : Snd G g C N env names r e1 i1) (h2 : SndO G g C N env names r lo i2) (h3 : SndO G g C N env names r hi i3) :
    Snd G g C N env names r (.Subscript e1 (.Slice lo hi none p) pos) (.slc i1 i2 i3) := fun loc hp Q X A s am h rm R => by
  dsimp only [wE_none, wE_bool, wE_int, wE_str, wE_loc, wE_glob, wE_bin, wE_not_, wE_cmp, wE_cmp2, wE_and_, wE_or_, wE_ite, wE_tup, wE_lst, wE_dct, wE_idx, wE_slc, wE_attr, wE_call, wE_new, wE_meth, wE_bi, wE_isi, wE_comp] at h
  refine Subscript_ (wpAny_mono (h1 loc hp _ X A s am h rm R) (fun v s1 z => ?_) fun _ _ z => z)
  obtain ⟨a, p1, am1, z1, z2, z3, z4, z5⟩ := z
  have R1 := R.step z4 z3 z5
  refine wpAny_Slice (wpAny_mono (sndO_ev h2 loc p1 _ X A s1 am1 z1 rm R1) (fun vl s2 y => ?_) fun _ _ y => y.back z4)
  obtain ⟨b, p2, am2, y1, y2, y3, y4, y5⟩ := y
  have R2 := R1.step y4 y3 y5
  refine wpAny_mono (sndO_ev h3 loc p2 _ X A s2 am2 y1 rm R2) (fun vh s3 x => ?_) fun _ _ y => y.back (z4.trans y4)
  obtain ⟨c, p3, am3, x1, x2, x3, x4, x5⟩ := x
  refine wpAny_pure ?_
  have back := (z4.trans y4).trans x4
  have ra := x4.rv (y4.rv z2)
  have rb := x4.rv y2
  cases e : slcop a b c p3 with
  | none => rw [e] at x1; exact x1.elim
  | some q =>
    rw [e, onSome_some] at x1
    obtain ⟨l, hl, e⟩ := bind_some (show (bnd b).bind _ = some q from e)
    obtain ⟨u, hu, e⟩ := bind_some e
    have pl := bnd_part hl rb
    have pu := bnd_part hu x2
    have kp := keep_push (h := s3.heap) ({ cls := .type "slice", data := .fields #[vl, vh, .none] } : Obj)
    have x3' := x3.keepAll kp
    have af : Aft [] s3.heap am3 (s3.heap.push { cls := .type "slice", data := .fields #[vl, vh, .none] }) am3 := Aft.ofKeep kp
    cases ht : a.asTup with
    | some xs =>
      rw [ht] at e
      rw [asTup_some ht] at ra
      cases ra with
      | tup i rs ll =>
        cases u with
        | some _ => cases e
        | none =>
          obtain ⟨n, rfl, e⟩ := bind_some (show l.bind _ = some q from e)
          obtain ⟨hn, e⟩ := if_some e
          cases e
          have ln := rs.length
          cases pu with
          | none => cases pl with
           | int _ t =>
            refine tail_any (T := "tuple") (i.keeps kp).typeIs slot_tuple_getitem.lookup (ops := [.ref s3.heap.objs.size, _]) (getItem_tuple_from (i.keeps kp) (Heap.IsSliceOf.new ..) hn.1 (by rw [List.size_toArray, ← ln]; exact hn.2) ?_ (by rw [List.size_toArray, ← ln, sizeLine]; simp only [lim] at ll; (first | lia | omega))) rfl
            have q := evp_new_tup (s := { s3 with heap := s3.heap.push { cls := .type "slice", data := .fields #[.int (Int.ofNat n) t, .none, .none] } }) x3' ⟨x5.gens, x5.os⟩ ((af.rvs rs).drop n) (by simp; (first | lia | omega)) x1 (items := ((List.toArray _).toList.drop n).toArray) rfl
            exact EvP.back (s1 := { s3 with heap := s3.heap.push { cls := .type "slice", data := .fields #[.int (Int.ofNat n) t, .none, .none] } }) (back.trans af) q
    | none =>
      rw [ht] at e
      obtain ⟨xs, e1, e2⟩ := map_some' e
      subst e2
      obtain ⟨ad, o, rfl, ho, hi⟩ := itmOf_some e1
      cases ra with
      | ref m =>
        obtain ⟨vs, n, ob, g1, g2, g3, g4, g5⟩ := x3'.items ho hi m
        obtain ⟨us, u1, u2⟩ := cut_pick (s := { s3 with heap := s3.heap.push { cls := .type "slice", data := .fields #[vl, vh, .none] } }) (lo := l) (hi := u) g4
        have ln := g4.length
        refine tail_any (T := "list") ⟨ob, g1, g2⟩ slot_list_getitem.lookup (ops := [.ref s3.heap.objs.size, _]) (wpAny_getItem_list_slice ⟨ob, g1, g2, n, g3⟩ (Heap.IsSliceOf.new ..) pl pu .none (by simp) ?_ (by rw [List.size_toArray, ← ln, sizeLine]; simp only [lim] at g5; (first | lia | omega))) rfl
        exact EvP.back (s1 := { s3 with heap := s3.heap.push { cls := .type "slice", data := .fields #[vl, vh, .none] } }) (back.trans af) (evp_new_list (s := { s3 with heap := s3.heap.push { cls := .type "slice", data := .fields #[vl, vh, .none] } }) x3' ⟨x5.gens, x5.os⟩ u2 (Nat.le_trans (cut_len xs l u) g5) x1 u1)
end
end Mine

end
noncomputable section
namespace Mine
open PySem PySem.W PyProof.Rows

theorem HR.sameBut {G : Glb} {am : AM} {h h' : Heap} {hp : Hp} (x : HR G am h hp) {a : Addr} {o : Obj} (sb : Heap.SameBut a h h') (ho : h.get? a = some o) (hi : ∀ C dx, o ≠ instObj C dx) (ht : ∀ items n, o.data ≠ .seq items n) (hm : a ∉ am.muts) (hb : G.base.get? a = none) : HR G am h' hp ∧ TupKept h h' := by
  have tk : TupKept h h' := fun b items t => by
    obtain ⟨ob, hb, hcl, n, r⟩ := t
    have ne : b ≠ a := fun q => by rw [q, ho] at hb; cases hb; exact ht _ _ r
    exact ⟨ob, (sb.2 b ne).trans hb, hcl, n, r⟩
  refine ⟨⟨x.len, x.nodup, fun i oi p h1 h2 => ?_, fun b ob e => ?_⟩, tk⟩
  · have n2 : p.2 ≠ a := fun e => hm (by rw [← e]; exact List.mem_map_of_mem (List.mem_of_getElem? h2))
    have n1 : p.1 ≠ a := fun e => n2 (by rw [← x.first ho hi p (List.mem_of_getElem? h2) e]; exact e)
    exact (x.objs i oi p h1 h2).mono tk (fun _ _ e => e) (fun ob e => (sb.2 _ n1).trans e) (fun ob e => (sb.2 _ n2).trans e)
  · have ne : b ≠ a := fun e' => by rw [e', hb] at e; cases e
    rw [sb.2 b ne]; exact x.base b ob e
theorem Aft.sameBut {am : AM} {h h' : Heap} {a : Addr} {own : List Addr} (sb : Heap.SameBut a h h') (ha : a ∈ own) (tk : TupKept h h') (lv : (h'.get? a).isSome = true) : Aft own h am h' am :=
  ⟨fun b o e n _ => by
    have ne : b ≠ a := fun q => n (q ▸ ha)
    rw [sb.2 b ne]; exact e, tk, ⟨[], by simp, by simp⟩, fun b e => by
    by_cases q : b = a
    · rw [q]; exact lv
    · rw [sb.2 b q]; exact e⟩
theorem Aft.weaken {own : List Addr} {h h' : Heap} {am am' : AM} (a : Aft [] h am h' am') : Aft own h am h' am' := ⟨fun b o e _ n => a.keep b o e (by simp) n, a.tup, a.ext, a.live⟩

theorem getL_set {loc : Locs} {i j : Nat} {v u : V} (h : Mine.getL (loc.set i (some v)) j = some u) : (i = j ∧ u = v) ∨ (i ≠ j ∧ Mine.getL loc j = some u) := by
  unfold Mine.getL at h ⊢
  by_cases e : i = j
  · subst e
    by_cases hl : i < loc.length
    · rw [List.getElem?_set_self hl] at h; simp at h; exact .inl ⟨rfl, h.symm⟩
    · rw [List.getElem?_eq_none (by simp; (first | lia | omega))] at h; simp at h
  · rw [List.getElem?_set_ne e] at h; exact .inr ⟨e, h⟩

section
variable {G : Glb} {g : Genv} {C N : Oracle} {env : Env} {names : List (Str × NameKind)} {r : Nat} {s : Shared} {am : AM} {loc : Locs} {hp : Hp} {A : Around} {E : Value → Shared → Prop}

theorem names_inj (O : EnvOk env names) {i j : Nat} {x : Str} {k k' : NameKind} (h1 : names[i]? = some (x, k)) (h2 : names[j]? = some (x, k')) : i = j := by
  have a1 : (names.map (·.1))[i]? = some x := by simp [h1]
  have a2 : (names.map (·.1))[j]? = some x := by simp [h2]
  exact (List.getElem?_inj (by obtain ⟨z, _⟩ := List.getElem?_eq_some_iff.mp a1; exact z) O.nodup).mp (a1.trans a2.symm)

theorem ns_obj {h : Heap} {a : Addr} {m : Str → Option Value} (x : h.Ns a m) : ∃ o, h.get? a = some o ∧ (∀ C dx, o ≠ instObj C dx) ∧ ∃ es ep, o.data = .dict es ep := by
  obtain ⟨o, es, ep, ho, hd, _⟩ := x
  exact ⟨o, ho, fun C dx e => (by rw [e] at hd; cases hd), es, ep, hd⟩

noncomputable def ownB (env : Env) : Bool → List Addr
  | true => [env.locals]
  | false => ownA env
noncomputable def kB (b : Bool) (k : NameKind) : Prop := k = .local ∨ (b = false ∧ k = .cell)
theorem store_own (O : EnvOk env names) (R : Rel G env names s am loc hp) {i : Nat} {x : Str} {k : NameKind} (hx : names[i]? = some (x, k)) {b : Bool} (hk : kB b k) {v : V} {val : Value} (rv : RV G.ws am s.heap v val) {T : Unit → Shared → Prop}
    (h : ∀ s', Rel G env names s' am (loc.set i (some v)) hp → Aft (ownB env b) s.heap am s'.heap am → T () s') : wpAny (model G.prog G.w) A (storeName env x val) T E s := by
  obtain ⟨m, F, lr⟩ := R.fr
  obtain ⟨o1, o2, o3, o4⟩ := O.kinds i x k hx
  have isc : ∀ c, (h : Heap) → ∀ v, h.IsCell c v → ∃ o, h.get? c = some o ∧ (∀ C dx, o ≠ instObj C dx) := fun c h v ⟨o, ho, hd⟩ => ⟨o, ho, fun C dx e => by rw [e] at hd; cases hd⟩
  rcases hk with rfl | ⟨rfl, rfl⟩
  · refine wpAny_storeName_local o1 F.ns (fun h' hn hs => ?_) (by rw [O.kind]; rfl)
    obtain ⟨oL, hL, hLi, eL, pL, dL⟩ := ns_obj F.ns
    obtain ⟨hr', tk⟩ := R.hr.sameBut hs hL hLi (fun _ _ q => by rw [q] at dL; cases dL) (R.own _ (by simp [ownA])).1 (R.own _ (by simp [ownA])).2
    have cl : ∀ c ∈ env.cells, ∀ v, s.heap.IsCell c.2 v → h'.IsCell c.2 v := fun c hc v q => q.sameBut hs (R.apartL c hc).1
    have lv : (h'.get? env.locals).isSome = true := by obtain ⟨o, _, _, ho, _⟩ := hn; rw [ho]; rfl
    refine h _ ⟨hr', ⟨_, F.set hn hs, fun j u e => ?_⟩, R.own, fun y hy => ?_, R.apart, fun c hc => ⟨(R.apartL c hc).1, ?_⟩, by simp [R.len], ⟨R.same.gens, R.same.os⟩⟩ (Aft.sameBut hs (by cases b <;> simp [ownA, ownB]) tk lv)
    · rcases getL_set e with ⟨rfl, rfl⟩ | ⟨ne, e⟩
      · exact ⟨x, .local, val, hx, rv.mono tk (fun _ _ e => e), by simp [BindAt]⟩
      · obtain ⟨y, k', val', h1, h2, h3⟩ := lr j u e
        refine ⟨y, k', val', h1, h2.mono tk (fun _ _ e => e), ?_⟩
        cases k' <;> simp only [BindAt] at h3 ⊢
        · rw [if_neg]; exact h3
          rintro rfl
          exact ne (names_inj O hx h1)
        · obtain ⟨c, h4, h5⟩ := h3; exact ⟨c, h4, cl _ (mem_of_lookup h4) _ h5⟩
        · obtain ⟨c, h4, h5⟩ := h3; exact ⟨c, h4, cl _ (mem_of_lookup h4) _ h5⟩
    · obtain ⟨c, v0, h1, h2⟩ := R.cells y hy
      exact ⟨c, v0, h1, cl _ (mem_of_lookup h1) _ h2⟩
    · rw [hs.2 _ (R.apartL c hc).1]; exact (R.apartL c hc).2
  · obtain ⟨c, v0, hc, hv⟩ := R.cells x (List.mem_of_getElem? hx)
    have hmem := mem_of_lookup hc
    refine wpAny_storeName_cell O.kind o1 hc hv fun h' hn hs => ?_
    have hown : c ∈ ownA env := by simp only [ownA, List.mem_cons, List.mem_map]; exact .inr ⟨(x, c), hmem, rfl⟩
    obtain ⟨oc, hoc, hod⟩ := hv
    have hoi : ∀ C dx, oc ≠ instObj C dx := fun C dx e => by rw [e] at hod; cases hod
    have hct : ∀ items n, oc.data ≠ .seq items n := fun _ _ q => by rw [q] at hod; cases hod
    obtain ⟨hr', tk⟩ := R.hr.sameBut hs hoc hoi hct (R.own _ hown).1 (R.own _ hown).2
    have lv : (h'.get? c).isSome = true := by obtain ⟨o, ho, _⟩ := hn; rw [ho]; rfl
    have cl : ∀ y d, env.cells.lookup y = some d → y ≠ x → ∀ v, s.heap.IsCell d v → h'.IsCell d v := fun y d hd hy v q => q.sameBut hs fun e => hy (by
      subst e
      exact name_of_addr R.apart (mem_of_lookup hd) hmem)
    refine h _ ⟨hr', ⟨m, ⟨F.ns.sameBut hs (Ne.symm (R.apartL _ hmem).1), hr'.base, F.above⟩, fun j u e => ?_⟩, R.own, fun y hy => ?_, R.apart, fun d hd => ⟨(R.apartL d hd).1, ?_⟩, by simp [R.len], ⟨R.same.gens, R.same.os⟩⟩ (Aft.sameBut hs hown tk lv)
    · rcases getL_set e with ⟨rfl, rfl⟩ | ⟨ne, e⟩
      · exact ⟨x, .cell, val, hx, rv.mono tk (fun _ _ e => e), by simp only [BindAt]; exact ⟨c, hc, hn⟩⟩
      · obtain ⟨y, k', val', h1, h2, h3⟩ := lr j u e
        have nxy : y ≠ x := fun q => ne (names_inj O hx (q ▸ h1))
        refine ⟨y, k', val', h1, h2.mono tk (fun _ _ e => e), ?_⟩
        cases k' <;> simp only [BindAt] at h3 ⊢
        · exact h3
        · obtain ⟨d, h4, h5⟩ := h3; exact ⟨d, h4, cl y d h4 nxy _ h5⟩
        · obtain ⟨d, h4, h5⟩ := h3; exact ⟨d, h4, cl y d h4 nxy _ h5⟩
    · obtain ⟨d, v1, h1, h2⟩ := R.cells y hy
      by_cases e : y = x
      · subst e; rw [hc] at h1; cases h1; exact ⟨c, _, hc, hn⟩
      · exact ⟨d, v1, h1, cl y d h1 e _ h2⟩
    · by_cases e : d.2 = c
      · rw [e]; exact lv
      · rw [hs.2 _ e]; exact (R.apartL d hd).2
theorem store_ok (O : EnvOk env names) (R : Rel G env names s am loc hp) {i : Nat} {x : Str} {k : NameKind} (hx : names[i]? = some (x, k)) (hk : k = .local ∨ k = .cell) {v : V} {val : Value} (rv : RV G.ws am s.heap v val) {T : Unit → Shared → Prop}
    (h : ∀ s', Rel G env names s' am (loc.set i (some v)) hp → Aft (ownA env) s.heap am s'.heap am → T () s') : wpAny (model G.prog G.w) A (storeName env x val) T E s :=
  store_own O R hx (b := false) (hk.imp id fun e => ⟨rfl, e⟩) rv h
end
end Mine

end
noncomputable section
namespace Mine
open PySem PySem.W PyProof.Rows

noncomputable def allNews (base h : Heap) (L : Addr) : List (Addr × Obj) := (List.range h.objs.size).filterMap fun a => if a = L ∨ (base.get? a).isSome = true then none else (h.get? a).map fun o => (a, o)
theorem mem_allNews {base h : Heap} {L a : Addr} {o : Obj} : (a, o) ∈ allNews base h L ↔ a ≠ L ∧ base.get? a = none ∧ h.get? a = some o := by
  unfold allNews
  rw [List.mem_filterMap]
  constructor
  · rintro ⟨b, hb, e⟩
    split at e
    · cases e
    · rename_i hn
      obtain ⟨o', h1, h2⟩ := Option.map_eq_some_iff.mp e
      cases h2
      exact ⟨fun q => hn (.inl q), by cases z : base.get? a with | none => rfl | some _ => exact absurd (.inr (by rw [z]; rfl)) hn, h1⟩
  · rintro ⟨h1, h2, h3⟩
    refine ⟨a, List.mem_range.mpr (Heap.lt_size h3), ?_⟩
    rw [if_neg (by rintro (q | q); exact h1 q; rw [h2] at q; cases q), h3]; rfl
theorem allNews_apart {base h : Heap} {L : Addr} : (allNews base h L).Pairwise fun x y => x.1 ≠ y.1 := by
  unfold allNews
  rw [List.pairwise_filterMap]
  refine List.Pairwise.imp ?_ List.nodup_range
  intro a b hab x hx y hy
  have q : ∀ {a : Addr} {x : Addr × Obj}, (if a = L ∨ (base.get? a).isSome = true then none else (h.get? a).map fun o => (a, o)) = some x → x.1 = a := by
    intro a x e
    split at e
    · cases e
    · obtain ⟨o, _, h2⟩ := Option.map_eq_some_iff.mp e; rw [← h2]
  rw [q hx, q hy]; exact hab
theorem upd_exists {d : Addr} {o o' : Obj} : ∀ {l : List (Addr × Obj)}, (d, o) ∈ l → (l.Pairwise fun x y => x.1 ≠ y.1) → ∃ l', Upd d o o' l l' ∧ (∀ p ∈ l, p.1 ≠ d → p ∈ l') ∧ (d, o') ∈ l'
  | q :: r, hm, hp => by
    obtain ⟨h1, h2⟩ := List.pairwise_cons.mp hp
    rcases List.mem_cons.mp hm with e | hm
    · subst e
      refine ⟨(d, o') :: r, .head fun p hp => Ne.symm (h1 p hp), fun p hp hne => ?_, .head _⟩
      rcases List.mem_cons.mp hp with e | hp
      · exact absurd (by rw [e]) hne
      · exact .tail _ hp
    · obtain ⟨l', u, k, m⟩ := upd_exists hm h2
      refine ⟨q :: l', .tail (h1 _ hm) u, fun p hp hne => ?_, .tail _ m⟩
      rcases List.mem_cons.mp hp with e | hp
      · rw [e]; exact .head _
      · exact .tail _ (k p hp hne)

section
variable {G : Glb} {g : Genv} {C N : Oracle} {env : Env} {names : List (Str × NameKind)} {r : Nat} {s : Shared} {am : AM} {loc : Locs} {hp : Hp} {A : Around} {E : Value → Shared → Prop}

theorem RE.put {h : Heap} (GO : GOk G) {k : Nat} {x : Str} (hk : G.ws[k]? = some x) {v : V} {val : Value} (rv : RV G.ws am h v val) (t : Tok) {fs : List (Nat × V)} {es : List DictEntry} (r : RE G am h fs es) :
    RE G am h (putK fs k v) (putL x (PyData.keyHash G.w.params x) (.str x t) val es) := by
  induction r with
  | nil => exact .cons hk rv .nil
  | cons hj rv' r ih =>
    rename_i j y t' u val' fs es
    simp only [putK, putL]
    have q := word_eq GO hj hk
    by_cases e : j = k
    · rw [if_pos e]
      have : y = x := q.mpr e
      subst this
      rw [if_pos (by simp [Value.isStr])]
      exact .cons hj rv r
    · rw [if_neg e]
      have : ¬ y = x := fun z => e (q.mp z)
      rw [if_neg (by simpa [Value.isStr] using this)]
      exact .cons hj rv' ih
theorem putK_length (fs : List (Nat × V)) (k : Nat) (v : V) : (putK fs k v).length ≤ fs.length + 1 := by
  induction fs with
  | nil => simp [putK]
  | cons y ys ih => obtain ⟨j, u⟩ := y; simp only [putK]; split <;> simp <;> (first | lia | omega)
theorem putL_length (x : Str) (hs : Int) (key v : Value) (es : List DictEntry) : (putL x hs key v es).length ≤ es.length + 1 := by
  induction es with
  | nil => simp [putL]
  | cons y ys ih => simp only [putL]; split <;> simp <;> (first | lia | omega)
theorem RE.length {h : Heap} {fs : List (Nat × V)} {es : List DictEntry} (r : RE G am h fs es) : fs.length = es.length := by
  induction r with
  | nil => rfl
  | cons _ _ _ ih => exact congrArg Nat.succ ih
theorem putK_mem {fs : List (Nat × V)} {k : Nat} {v : V} {p : Nat × V} (h : p ∈ putK fs k v) : p.1 = k ∨ ∃ q ∈ fs, q.1 = p.1 := by
  induction fs with
  | nil => simp [putK] at h; subst h; exact .inl rfl
  | cons y ys ih =>
    obtain ⟨j, u⟩ := y
    simp only [putK] at h
    split at h
    · rcases List.mem_cons.mp h with e | h
      · rw [e]; exact .inr ⟨(j, u), .head _, rfl⟩
      · exact .inr ⟨p, .tail _ h, rfl⟩
    · rcases List.mem_cons.mp h with e | h
      · rw [e]; exact .inr ⟨(j, u), .head _, rfl⟩
      · rcases ih h with e | ⟨q, hq, e⟩
        · exact .inl e
        · exact .inr ⟨q, .tail _ hq, e⟩

theorem setAttr_ok (GK : GG G g) (R : Rel G env names s am loc hp) {x c f : Nat} {fs : List (Nat × V)} {nm : Str} {p : Addr × Addr} (hx : hp[x]? = some (.inst c fs)) (hm : am[x]? = some p) (hf : G.ws[f]? = some nm) (ha : g.at_ c f = true) (hl : fs.length < 400) {v : V} {val : Value} (rv : RV G.ws am s.heap v val) {T : Unit → Shared → Prop}
    (h : ∀ s', Rel G env names s' am loc (hp.set x (.inst c (putK fs f v))) → Aft (ownA env) s.heap am s'.heap am → T () s') : wpAny (model G.prog G.w) A (setAttr (.ref p.1) nm val) T E s := by
  obtain ⟨Ca, es, n, i1, i2, i3, i4, i5, i6, i7, i8, I⟩ := instAt R.hr hx hm
  obtain ⟨⟨k1, k1'⟩, k2, k3, k4, k5, k6⟩ := clsOk_get (GK.cls _ _ i1)
  obtain ⟨m, F, lr⟩ := R.fr
  have hne : p.2 ≠ env.locals := fun e => (R.own env.locals (by simp [ownA])).1 (by rw [← e]; exact List.mem_map_of_mem (List.mem_of_getElem? hm))
  have N0 : News G.base env.locals s.heap (allNews G.base s.heap env.locals) := fun q hq => by
    obtain ⟨a, o⟩ := q
    obtain ⟨h1, h2, h3⟩ := mem_allNews.mp hq
    exact ⟨h3, h1, h2⟩
  have mem : (p.2, dictOf es n) ∈ allNews G.base s.heap env.locals := mem_allNews.mpr ⟨hne, i7, i3⟩
  obtain ⟨news', U, kp, md⟩ := upd_exists (o' := dictOf (putL nm (PyData.keyHash G.w.params nm) (.str nm (s.toks + 1)) val es) (putN nm es n)) mem allNews_apart
  have fi := GK.attrs c Ca f nm i1 ha hf
  have ln := i4.length
  refine set_dict (K := G.K) F GK.ok.x N0 I rfl k5 k4 ?_ k2 ?_ rfl U ?_ fun h' F' N' => ?_
  · unfold takerIn; rw [fi]; rfl
  · unfold W.getL
    split
    · rfl
    · rw [i4.noRef]; rfl
  · have := putL_length nm (PyData.keyHash G.w.params nm) (.str nm (s.toks + 1)) val es; (first | lia | omega)
  · have keep : ∀ b o, s.heap.get? b = some o → b ≠ env.locals → b ≠ p.2 → h'.get? b = some o := fun b o e n1 n2 => by
      cases hb : G.base.get? b with
      | some o' => rw [R.hr.base b o' hb] at e; cases e; exact F'.keep b o hb
      | none => exact (N' _ (kp _ (mem_allNews.mpr ⟨n1, hb, e⟩) n2)).1
    have hd' := (N' _ md).1
    obtain ⟨oL, hL, hLi, eL, pL, dL⟩ := ns_obj F.ns
    have tk : TupKept s.heap h' := fun b items t => by
      obtain ⟨ob, hb, hcl, n, hr⟩ := t
      refine ⟨ob, keep b ob hb ?_ ?_, hcl, n, hr⟩
      · rintro rfl; rw [hL] at hb; cases hb; rw [hr] at dL; cases dL
      · rintro rfl; rw [i3] at hb; cases hb; cases hr
    have np : ∀ q ∈ am, q.1 ≠ env.locals ∧ q.2 ≠ env.locals := fun q hq => by
      have n2 : q.2 ≠ env.locals := fun e => (R.own env.locals (by simp [ownA])).1 (by rw [← e]; exact List.mem_map_of_mem hq)
      exact ⟨fun e => n2 (by rw [← R.hr.first hL hLi q hq e]; exact e), n2⟩
    have live : ∀ b, (s.heap.get? b).isSome = true → (h'.get? b).isSome = true := fun b e => by
      cases c : s.heap.get? b with
      | none => rw [c] at e; cases e
      | some o =>
        by_cases n1 : b = env.locals
        · obtain ⟨o, _, _, ho, _⟩ := F'.ns; rw [n1, ho]; rfl
        · by_cases n2 : b = p.2
          · rw [n2, hd']; rfl
          · rw [keep b o c n1 n2]; rfl
    have hr' : HR G am h' (hp.set x (.inst c (putK fs f v))) := by
      refine ⟨by simp [R.hr.len], R.hr.nodup, fun j oj q h1 h2 => ?_, F'.keep⟩
      have nl := np q (List.mem_of_getElem? h2)
      by_cases hj : x = j
      · subst hj
        rw [hm] at h2; cases h2
        rw [List.getElem?_set_self (by obtain ⟨z, _⟩ := List.getElem?_eq_some_iff.mp hx; exact z)] at h1
        cases h1
        have n1 : p.1 ≠ p.2 := fun e => by rw [e, i3] at i2; cases i2
        refine .inst i1 (keep _ _ i2 nl.1 n1) hd' ((i4.put GK.ok hf rv _).mono tk fun _ _ e => e) (by have := putK_length fs f v; (first | lia | omega)) i6 i7 fun q hq => ?_
        rcases putK_mem hq with e | ⟨q', hq', e⟩
        · rw [e, GK.at_]; exact ha
        · rw [← e]; exact i8 q' hq'
      · rw [List.getElem?_set_ne hj] at h1
        have ne2 : q.2 ≠ p.2 := fun e => hj (by
          have a1 : am.muts[x]? = some p.2 := by simp [AM.muts, hm]
          have a2 : am.muts[j]? = some p.2 := by simp [AM.muts, h2, e]
          exact (List.getElem?_inj (by obtain ⟨z, _⟩ := List.getElem?_eq_some_iff.mp a1; exact z) R.hr.nodup).mp (a1.trans a2.symm))
        have ne1 : q.1 ≠ p.2 := fun e => ne2 (by rw [← R.hr.first i3 (by intro C dx e; cases e) q (List.mem_of_getElem? h2) e]; exact e)
        exact (R.hr.objs j oj q h1 h2).mono tk (fun _ _ e => e) (fun ob e => keep _ _ e nl.1 ne1) (fun ob e => keep _ _ e nl.2 ne2)
    have cl : ∀ c ∈ env.cells, ∀ v, s.heap.IsCell c.2 v → h'.IsCell c.2 v := fun c hc v ⟨o, ho, hd⟩ => ⟨o, keep _ _ ho (R.apartL c hc).1 (fun e => by rw [e, i3] at ho; cases ho; cases hd), hd⟩
    refine h _ ⟨hr', ⟨m, F', fun j u e => ?_⟩, R.own, fun y hy => ?_, R.apart, fun d hd => ⟨(R.apartL d hd).1, live _ (R.apartL d hd).2⟩, R.len, ⟨R.same.gens, R.same.os⟩⟩ ⟨fun b o e n1 n2 => keep b o e (fun q => n1 (by rw [q]; simp [ownA])) (fun q => n2 (by rw [q]; exact List.mem_map_of_mem (List.mem_of_getElem? hm))), tk, ⟨[], by simp, by simp⟩, live⟩
    · obtain ⟨y, k', val', h1, h2, h3⟩ := lr j u e
      refine ⟨y, k', val', h1, h2.mono tk (fun _ _ e => e), ?_⟩
      cases k' <;> simp only [BindAt] at h3 ⊢
      · exact h3
      · obtain ⟨d, h4, h5⟩ := h3; exact ⟨d, h4, cl _ (mem_of_lookup h4) _ h5⟩
      · obtain ⟨d, h4, h5⟩ := h3; exact ⟨d, h4, cl _ (mem_of_lookup h4) _ h5⟩
    · obtain ⟨d, v0, h1, h2⟩ := R.cells y hy
      exact ⟨d, v0, h1, cl _ (mem_of_lookup h1) _ h2⟩
end
end Mine

end
noncomputable section
namespace Mine
open PySem PySem.W PyProof.Rows

noncomputable def SP (G : Glb) (env : Env) (names : List (Str × NameKind)) (s : Shared) (am : AM) (KN : St → Prop) (KR : V → Hp → Prop) (fl : Flow) (s' : Shared) : Prop := match fl with
  | .next => ∃ loc' hp' am', KN ⟨loc', hp'⟩ ∧ Rel G env names s' am' loc' hp' ∧ Aft (ownA env) s.heap am s'.heap am'
  | .ret val => ∃ v hp' am', KR v hp' ∧ RV G.ws am' s'.heap v val ∧ HR G am' s'.heap hp' ∧ Aft (ownA env) s.heap am s'.heap am' ∧ Same G s'
  | _ => False
theorem SP.back {G : Glb} {env : Env} {names : List (Str × NameKind)} {s s1 : Shared} {am am1 : AM} {KN : St → Prop} {KR : V → Hp → Prop} {fl : Flow} {s' : Shared} (a : Aft (ownA env) s.heap am s1.heap am1) (x : SP G env names s1 am1 KN KR fl s') : SP G env names s am KN KR fl s' := by
  cases fl with
  | next => obtain ⟨l, h, m, x1, x2, x3⟩ := x; exact ⟨l, h, m, x1, x2, a.trans x3⟩
  | ret v => obtain ⟨l, h, m, x1, x2, x3, x4, x5⟩ := x; exact ⟨l, h, m, x1, x2, x3, a.trans x4, x5⟩
  | brk => exact x.elim
  | cont => exact x.elim
theorem XP.no {G : Glb} {own : List Addr} {s : Shared} {am : AM} {X : Nat → Hp → Prop} {e : Value} {s' : Shared} (x : XP G own s am X e s') : False := by
  obtain ⟨_, _, _, _, h, _⟩ := x; exact h

section
variable (G : Glb) (g : Genv) (C N : Oracle) (env : Env) (names : List (Str × NameKind)) (r : Nat)
noncomputable def SndS (st : Stmt) (i : Mine.S) : Prop := ∀ (σ : St) (KN : St → Prop) (KR : V → Hp → Prop) (X : Nat → Hp → Prop) (A : Around) (s : Shared) (am : AM) (E : Value → Shared → Prop),
  wpS g C N i σ KN KR X → Room X A r → Rel G env names s am σ.loc σ.hp → wpAny (model G.prog G.w) A (exec st env) (SP G env names s am KN KR) E s
noncomputable def SndSs (sts : List Stmt) (i : Mine.S) : Prop := ∀ (σ : St) (KN : St → Prop) (KR : V → Hp → Prop) (X : Nat → Hp → Prop) (A : Around) (s : Shared) (am : AM) (E : Value → Shared → Prop),
  wpS g C N i σ KN KR X → Room X A r → Rel G env names s am σ.loc σ.hp → wpAny (model G.prog G.w) A (execs sts env) (SP G env names s am KN KR) E s
end

noncomputable def notComp : PySem.Expr → Bool
  | .ListComp .. => false
  | .SetComp .. => false
  | .DictComp .. => false
  | _ => true
theorem swaps_plain {e : PySem.Expr} (h : notComp e = true) (t : Option PySem.Expr) (l : Nat) (env : Env) : swapsWith e t l env = pure false := by
  cases e <;> first | rfl | cases h
noncomputable def notTuple : PySem.Expr → Bool
  | .Tuple .. => false
  | _ => true

section
variable {G : Glb} {g : Genv} {C N : Oracle} {env : Env} {names : List (Str × NameKind)} {r : Nat}

theorem interactive_no (O : EnvOk env names) : interactive env = false := by unfold interactive; rw [O.kind]; rfl

theorem sndSs_nil : SndSs G g C N env names r [] .skip := fun σ KN KR X A s am E h _ R => wpAny_execs_nil ⟨σ.loc, σ.hp, am, h, R, Aft.refl _ _ _⟩
theorem sndSs_cons {st : Stmt} {sts : List Stmt} {i j : Mine.S} (h1 : SndS G g C N env names r st i) (h2 : SndSs G g C N env names r sts j) : SndSs G g C N env names r (st :: sts) (.seq i j) := fun σ KN KR X A s am E h rm R => by
  dsimp only [wS_skip, wS_seq, wS_expr, wS_asg, wS_if_, wS_while_, wS_for_, wS_ret, wS_raise] at h
  refine wpAny_execs_cons (wpAny_mono (h1 σ _ KR X A s am E h rm R) (fun fl s1 z => ?_) fun _ _ z => z)
  cases fl with
  | next =>
    obtain ⟨l, hp, am1, z1, z2, z3⟩ := z
    exact wpAny_mono (h2 ⟨l, hp⟩ KN KR X A s1 am1 E z1 rm z2) (fun _ _ y => y.back z3) fun _ _ y => y
  | ret v => exact z
  | brk => exact z.elim
  | cont => exact z.elim

theorem sndS_pass (p : Pos) : SndS G g C N env names r (.Pass p) .skip := fun σ KN KR X A s am E h _ R => wpAny_Pass ⟨σ.loc, σ.hp, am, h, R, Aft.refl _ _ _⟩

theorem sndS_expr (O : EnvOk env names) {e : PySem.Expr} {i : Mine.E} {pos : Pos} (hc : notComp e = true) (h1 : Snd G g C N env names r e i) : SndS G g C N env names r (.Expr e pos) (.expr i) := fun σ KN KR X A s am E h rm R => by
  dsimp only [wS_skip, wS_seq, wS_expr, wS_asg, wS_if_, wS_while_, wS_for_, wS_ret, wS_raise] at h
  refine wpAny_Expr_any (wpAny_mono (h1 σ.loc σ.hp _ X A s am h rm R) (fun v s1 z => ?_) fun _ _ z => z.no.elim) (interactive_no O) (swaps_plain hc _ _ _)
  obtain ⟨c, p1, am1, z1, z2, z3, z4, z5⟩ := z
  exact ⟨σ.loc, p1, am1, z1, R.step z4 z3 z5, z4.weaken⟩

theorem sndS_ret {e : PySem.Expr} {i : Mine.E} {pos : Pos} (h1 : Snd G g C N env names r e i) : SndS G g C N env names r (.Return (some e) pos) (.ret i) := fun σ KN KR X A s am E h rm R => by
  dsimp only [wS_skip, wS_seq, wS_expr, wS_asg, wS_if_, wS_while_, wS_for_, wS_ret, wS_raise] at h
  refine wpAny_Return_some (wpAny_mono (h1 σ.loc σ.hp _ X A s am h rm R) (fun v s1 z => ?_) fun _ _ z => z.no.elim)
  obtain ⟨c, p1, am1, z1, z2, z3, z4, z5⟩ := z
  exact ⟨c, p1, am1, z1, z2, z3, z4.weaken, z5⟩
theorem sndS_ret0 {pos : Pos} : SndS G g C N env names r (.Return none pos) (.ret .none) := fun σ KN KR X A s am E h rm R => by
  dsimp only [wS_skip, wS_seq, wS_expr, wS_asg, wS_if_, wS_while_, wS_for_, wS_ret, wS_raise, wE_none, wE_bool, wE_int, wE_str, wE_loc, wE_glob, wE_bin, wE_not_, wE_cmp, wE_cmp2, wE_and_, wE_or_, wE_ite, wE_tup, wE_lst, wE_dct, wE_idx, wE_slc, wE_attr, wE_call, wE_new, wE_meth, wE_bi, wE_isi, wE_comp] at h
  exact wpAny_Return_none ⟨.none, σ.hp, am, h, .none, R.hr, Aft.refl _ _ _, R.same⟩

theorem sndS_if {c : PySem.Expr} {a b : List Stmt} {ic : Mine.E} {ia ib : Mine.S} {pos : Pos} (h1 : SndT G g C N env names r c ic) (h2 : SndSs G g C N env names r a ia) (h3 : SndSs G g C N env names r b ib) : SndS G g C N env names r (.If c a b pos) (.if_ ic ia ib) := fun σ KN KR X A s am E h rm R => by
  dsimp only [wS_skip, wS_seq, wS_expr, wS_asg, wS_if_, wS_while_, wS_for_, wS_ret, wS_raise] at h
  refine wpAny_If (wpAny_mono (h1 σ.loc σ.hp (fun b h => match b with | true => wpS g C N ia ⟨σ.loc, h⟩ KN KR X | false => wpS g C N ib ⟨σ.loc, h⟩ KN KR X) X A s am _ h rm R rfl) (fun b s1 z => ?_) fun _ _ z => z.no.elim)
  obtain ⟨p1, am1, z1, z3, z4, z5⟩ := z
  cases b with
  | true => exact wpAny_mono (h2 ⟨σ.loc, p1⟩ KN KR X A s1 am1 E z1 rm (R.step z4 z3 z5)) (fun _ _ y => y.back z4.weaken) fun _ _ y => y
  | false => exact wpAny_mono (h3 ⟨σ.loc, p1⟩ KN KR X A s1 am1 E z1 rm (R.step z4 z3 z5)) (fun _ _ y => y.back z4.weaken) fun _ _ y => y

theorem sndS_raise {e c : Option PySem.Expr} {pos : Pos} {k : Nat} : SndS G g C N env names r (.Raise e c pos) (.raise k) := fun σ KN KR X A s am E h rm R => by
  dsimp only [wS_skip, wS_seq, wS_expr, wS_asg, wS_if_, wS_while_, wS_for_, wS_ret, wS_raise] at h
  exact absurd h (rm.noX _ _)

theorem sndS_asgL (O : EnvOk env names) {e : PySem.Expr} {i : Mine.E} {x : Str} {k : NameKind} {j : Nat} {p pos : Pos} (hx : names[j]? = some (x, k)) (hk : k = .local ∨ k = .cell) (hc : notComp e = true) (h1 : Snd G g C N env names r e i) :
    SndS G g C N env names r (.Assign [.Name x p] e pos) (.asg (.loc j) i) := fun σ KN KR X A s am E h rm R => by
  dsimp only [wS_skip, wS_seq, wS_expr, wS_asg, wS_if_, wS_while_, wS_for_, wS_ret, wS_raise, wT_loc, wT_attr, wT_idx, wT_unp] at h
  refine wpAny_Assign_Name (wpAny_mono (h1 σ.loc σ.hp _ X A s am h rm R) (fun v s1 z => ?_) fun _ _ z => z.no.elim) (swaps_plain hc _ _ _)
  obtain ⟨c, p1, am1, ⟨z0, z1⟩, z2, z3, z4, z5⟩ := z
  exact store_ok O (R.step z4 z3 z5) hx hk z2 fun s' R' a' => ⟨_, p1, am1, z1, R', z4.weaken.trans a'⟩

theorem sndS_asgA (GK : GG G g) {e o : PySem.Expr} {i io : Mine.E} {f : Nat} {x : Str} {p pos : Pos} (hx : G.ws[f]? = some x) (hc : notComp e = true) (h1 : Snd G g C N env names r e i) (h2 : Snd G g C N env names r o io) :
    SndS G g C N env names r (.Assign [.Attribute o x p] e pos) (.asg (.attr io f) i) := fun σ KN KR X A s am E h rm R => by
  dsimp only [wS_skip, wS_seq, wS_expr, wS_asg, wS_if_, wS_while_, wS_for_, wS_ret, wS_raise, wT_loc, wT_attr, wT_idx, wT_unp] at h
  refine plainObj_wpAny_Assign_Attribute (wpAny_mono (h1 σ.loc σ.hp _ X A s am h rm R) (fun v s1 z => ?_) fun _ _ z => z.no.elim) (swaps_plain hc _ _ _)
  obtain ⟨c, p1, am1, z1, z2, z3, z4, z5⟩ := z
  have R1 := R.step z4 z3 z5
  refine wpAny_mono (h2 σ.loc p1 _ X A s1 am1 z1 rm R1) (fun ov s2 y => ?_) fun _ _ z => z.no.elim
  obtain ⟨d, p2, am2, y1, y2, y3, y4, y5⟩ := y
  have R2 := R1.step y4 y3 y5
  cases y2 with
  | ref m =>
    dsimp only at y1
    split at y1
    · rename_i cl fs hfs
      exact setAttr_ok GK R2 hfs m hx y1.1 y1.2.1 (y4.rv z2) fun s' R' a' => ⟨_, _, am2, y1.2.2, R', (z4.trans y4).weaken.trans a'⟩
    · exact y1.elim
  | _ => exact y1.elim

end
end Mine

end
noncomputable section
namespace Mine
open PySem PySem.W PyProof.Rows

inductive KV (G : Glb) (am : AM) (h : Heap) : List (Nat × V) → List (Str × Value) → Prop
  | nil : KV G am h [] []
  | cons {k : Nat} {s : Str} {v : V} {x : Value} {fs : List (Nat × V)} {kvs : List (Str × Value)} : G.ws[k]? = some s → RV G.ws am h v x → KV G am h fs kvs → KV G am h ((k, v) :: fs) ((s, x) :: kvs)

section
variable {G : Glb} {g : Genv} {C N : Oracle} {env : Env} {names : List (Str × NameKind)} {r : Nat} {s : Shared} {am : AM} {loc : Locs} {hp : Hp} {A : Around} {E : Value → Shared → Prop}

theorem KV.mono {am' : AM} {h h' : Heap} (ht : TupKept h h') (hl : AM.Le am am') {fs : List (Nat × V)} {kvs : List (Str × Value)} (x : KV G am h fs kvs) : KV G am' h' fs kvs := by
  induction x with
  | nil => exact .nil
  | cons a b c ih => exact .cons a (b.mono ht hl) ih
theorem RE.kv {h : Heap} {fs : List (Nat × V)} {es : List DictEntry} (x : RE G am h fs es) : ∃ kvs, Pairs (strKind G.prog G.w) es kvs ∧ KV G am h fs kvs := by
  induction x with
  | nil => exact ⟨[], .nil, .nil⟩
  | cons a b c ih =>
    obtain ⟨kvs, h1, h2⟩ := ih
    exact ⟨_, .cons (kv := (_, _)) (strKind_is G.prog G.w _ _) rfl h1, .cons a b h2⟩
theorem KV.re {h : Heap} {fs : List (Nat × V)} {kvs : List (Str × Value)} (x : KV G am h fs kvs) : ∀ {es : List DictEntry}, Pairs (strKind G.prog G.w) es kvs → (∀ e ∈ es, ∃ k, (strKind G.prog G.w).is k e.key = true ∧ e.hash = (strKind G.prog G.w).hash k) → RE G am h fs es := by
  induction x with
  | nil => intro es h1 _; cases h1; exact .nil
  | cons a b c ih =>
    intro es h1 h2
    cases h1 with
    | cons p1 p2 p3 =>
      rename_i e es
      obtain ⟨k, q1, q2⟩ := h2 e (.head _)
      have hk := (strKind G.prog G.w).inj _ _ _ p1 q1
      obtain ⟨t, et⟩ := Value.isStrOf_shape p1
      obtain ⟨eh, ek, ev⟩ := e
      dsimp only at p1 p2 q1 q2 hk et
      subst et
      subst p2
      subst hk
      rw [q2]
      exact .cons a b (ih p3 fun e he => h2 e (.tail _ he))
theorem KV.keys (GO : GOk G) {h : Heap} {fs : List (Nat × V)} {kvs : List (Str × Value)} (x : KV G am h fs kvs) : (∀ (k : Nat) (nm : Str), G.ws[k]? = some nm → k ∉ fs.map (·.1) → nm ∉ kvs.map (·.1)) := by
  induction x with
  | nil => intro k nm _ _ z; cases z
  | cons a b c ih =>
    intro k nm hk hn z
    rw [List.map_cons, List.mem_cons] at z
    rw [List.map_cons, List.mem_cons, not_or] at hn
    rcases z with z | z
    · exact hn.1 ((word_eq GO hk a).mp z)
    · exact ih k nm hk hn.2 z
theorem KV.nodup (GO : GOk G) {h : Heap} {fs : List (Nat × V)} {kvs : List (Str × Value)} (x : KV G am h fs kvs) : (fs.map (·.1)).Nodup → (kvs.map (·.1)).Nodup := by
  induction x with
  | nil => intro _; exact List.nodup_nil
  | cons a b c ih =>
    intro h
    rw [List.map_cons, List.nodup_cons] at h ⊢
    exact ⟨c.keys GO _ _ a h.1, ih h.2⟩
theorem stored_ne {kvs : List (Str × Value)} {s0 nm : Str} {x0 val : Value} (h : s0 ≠ nm) : stored ((s0, x0) :: kvs) nm val = (s0, x0) :: stored kvs nm val := by
  unfold stored
  simp only [List.any_cons, decide_eq_false h, Bool.false_or, List.map_cons, if_neg h]
  split <;> rfl
theorem stored_eq {kvs : List (Str × Value)} {nm : Str} {x0 val : Value} (h : nm ∉ kvs.map (·.1)) : stored ((nm, x0) :: kvs) nm val = (nm, val) :: kvs := by
  unfold stored
  simp only [List.any_cons, decide_true, Bool.true_or, if_true, List.map_cons]
  rw [map_store_of_not_mem kvs nm val h]
theorem KV.put (GO : GOk G) {h : Heap} {k : Nat} {nm : Str} (hk : G.ws[k]? = some nm) {v : V} {val : Value} (rv : RV G.ws am h v val) {fs : List (Nat × V)} {kvs : List (Str × Value)} (x : KV G am h fs kvs) : (fs.map (·.1)).Nodup → KV G am h (putK fs k v) (stored kvs nm val) := by
  induction x with
  | nil => intro _; exact .cons hk rv .nil
  | cons a b c ih =>
    intro hn
    rw [List.map_cons, List.nodup_cons] at hn
    rename_i j s0 v0 x0 fs kvs
    show KV G am h (if j = k then (j, v) :: fs else (j, v0) :: putK fs k v) _
    by_cases e : j = k
    · subst e
      rw [a] at hk; cases hk
      rw [if_pos rfl, stored_eq (c.keys GO _ _ a hn.1)]
      exact .cons a rv c
    · rw [if_neg e, stored_ne (fun z => e ((word_eq GO a hk).mp z))]
      exact .cons a b (ih hn.2)
theorem putK_keys {k : Nat} {v : V} : ∀ {fs : List (Nat × V)}, (fs.map (·.1)).Nodup → ((putK fs k v).map (·.1)).Nodup
  | [], _ => by simp [putK]
  | (j, u) :: fs, h => by
    rw [List.map_cons, List.nodup_cons] at h
    show ((if j = k then (j, v) :: fs else (j, u) :: putK fs k v).map (·.1)).Nodup
    by_cases e : j = k
    · rw [if_pos e, List.map_cons, List.nodup_cons]; exact h
    · rw [if_neg e, List.map_cons, List.nodup_cons]
      refine ⟨fun z => ?_, putK_keys h.2⟩
      obtain ⟨q, hq, eq⟩ := List.mem_map.mp z
      rcases putK_mem hq with w | ⟨q', hq', w⟩
      · exact e (eq.symm.trans w)
      · exact h.1 (List.mem_map.mpr ⟨q', hq', w.trans eq⟩)

theorem dictOf_of {h : Heap} {a : Addr} {o : Obj} {es : Array DictEntry} {ep : Nat} (ho : h.get? a = some o) (hx : o.ExactDict) (hd : o.data = .dict es ep) : h.get? a = some (dictOf es.toList ep) := by
  obtain ⟨c, d, dt, sl⟩ := o
  obtain ⟨h1, h2, h3⟩ := hx
  dsimp only at h1 h2 h3 hd
  subst h1; subst h2; subst h3; subst hd
  exact ho

theorem setItem_dict (GO : GOk G) (x : HR G am s.heap hp) {i k : Nat} {p : Addr × Addr} {fs : List (Nat × V)} {nm : Str} {t : Tok} {v : V} {val : Value} {T : Unit → Shared → Prop} (hi : hp[i]? = some (.dict fs)) (hm : am[i]? = some p) (hk : G.ws[k]? = some nm) (rv : RV G.ws am s.heap v val) (hl : fs.length < 400)
    (h : ∀ h', HR G am h' (hp.set i (.dict (putK fs k v))) → Aft [] s.heap am h' am → T () { s with heap := h', toks := s.toks + 1 }) : wpAny (model G.prog G.w) A (setItem (.ref p.1) (.str nm t) val) T E s := by
  have o := x.objs _ _ _ hi hm
  cases o with
  | dict g1 g2 g3 g4 g5 =>
    rename_i a es n
    obtain ⟨kvs, k1, k2⟩ := g2.kv
    have hdo : s.heap.DictOf (strKind G.prog G.w) a kvs := ⟨_, es.toArray, n, g1, ⟨rfl, rfl, rfl⟩, rfl, fun en hen => by
      obtain ⟨x, t, e1, e2⟩ := (g2.lits).all en (Array.mem_toList_iff.mpr hen)
      exact ⟨x, by rw [e1]; exact strKind_is G.prog G.w x t, e2⟩, k1, k2.nodup GO g5⟩
    have ln := k1.length
    have ln2 := g2.length
    refine wpAny_setItem_pairs (strKind_is G.prog G.w nm t) hdo (fun h' hd sb => ?_) (by rw [sizeLine]; (first | lia | omega))
    obtain ⟨o', es', ep', d1, d2, d3, d4, d5, d6⟩ := hd
    have d1' := dictOf_of d1 d2 d3
    have tk : TupKept s.heap h' := fun b items t => by
      obtain ⟨ob, hb, hcl, n, r⟩ := t
      have ne : b ≠ a := fun q => by rw [q, g1] at hb; cases hb; cases r
      exact ⟨ob, (sb.2 b ne).trans hb, hcl, n, r⟩
    have kv' := (k2.mono tk fun _ _ e => e).put GO hk (rv.mono tk fun _ _ e => e) g5
    have re' := kv'.re d5 fun e he => d4 e (Array.mem_toList_iff.mp he)
    refine h h' (x.turn hi hm sb tk g4 (fun q hq e => x.first g1 (by intro C dx e; cases e) q hq e) (.dict d1' re' (by have := putK_length fs k v; (first | lia | omega)) g4 (putK_keys g5))) (Aft.turn (List.mem_of_getElem? hm) sb tk (by rw [d1]; rfl))

theorem sndS_asgI (GO : GOk G) {e o ix : PySem.Expr} {i io ii : Mine.E} {p pos : Pos} (hc : notComp e = true) (h1 : Snd G g C N env names r e i) (h2 : Snd G g C N env names r o io) (h3 : Snd G g C N env names r ix ii) :
    SndS G g C N env names r (.Assign [.Subscript o ix p] e pos) (.asg (.idx io ii) i) := fun σ KN KR X A s am E h rm R => by
  dsimp only [wS_skip, wS_seq, wS_expr, wS_asg, wS_if_, wS_while_, wS_for_, wS_ret, wS_raise, wT_loc, wT_attr, wT_idx, wT_unp] at h
  refine wpAny_Assign_Subscript (wpAny_mono (h1 σ.loc σ.hp _ X A s am h rm R) (fun v s1 z => ?_) fun _ _ z => z.no.elim) (swaps_plain hc _ _ _)
  obtain ⟨c, p1, am1, z1, z2, z3, z4, z5⟩ := z
  have R1 := R.step z4 z3 z5
  refine wpAny_mono (h2 σ.loc p1 _ X A s1 am1 z1 rm R1) (fun ov s2 y => ?_) fun _ _ z => z.no.elim
  obtain ⟨d, p2, am2, y1, y2, y3, y4, y5⟩ := y
  have R2 := R1.step y4 y3 y5
  refine wpAny_mono (h3 σ.loc p2 _ X A s2 am2 y1 rm R2) (fun iv s3 w => ?_) fun _ _ z => z.no.elim
  obtain ⟨u, p3, am3, w1, w2, w3, w4, w5⟩ := w
  have R3 := R2.step w4 w3 w5
  have af := (z4.trans y4).trans w4
  cases ha : d.asRef with
  | none => rw [ha] at w1; exact w1.elim
  | some x =>
    rw [ha, onSome_some] at w1
    rw [asRef_some ha] at y2
    cases hx : p3[x]? with
    | none => rw [hx] at w1; exact w1.elim
    | some ob =>
      rw [hx, Option.bind_some] at w1
      have rv := w4.rv (y4.rv z2)
      cases y2 with
      | ref m =>
        change onSome (match ob.asL with | some xs => u.asInt.bind fun n => (setAt xs n c).map O.list | none => ob.asD.bind fun es => u.asStr.bind fun k => if es.length < 400 then some (O.dict (putK es k c)) else none) _ at w1
        cases hl : ob.asL with
        | some xs =>
          rw [hl] at w1
          dsimp only at w1
          cases hu : u.asInt with
          | none => rw [hu] at w1; exact w1.elim
          | some n =>
            rw [hu, Option.bind_some] at w1
            rw [asInt_some hu] at w2
            rw [asL_some hl] at hx
            cases hs : setAt xs n c with
            | none => rw [hs] at w1; exact w1.elim
            | some ys =>
              rw [hs, Option.map_some, onSome_some] at w1
              obtain ⟨hb, hs⟩ := if_some (show (if 0 ≤ n ∧ n < (xs.length : Int) then some (xs.set n.toNat c) else none) = some ys from hs)
              cases hs
              cases w2 with
              | int n t =>
                have o := w3.objs _ _ _ hx (w4.map _ _ m)
                cases o with
                | list g1 g2 g3 g4 =>
                  rename_i a vs n0
                  have ln := g2.length
                  obtain ⟨n', hn'⟩ := listObj_update g1 (fun xs => xs.setIfInBounds n.toNat v) (us := vs.set n.toNat v) (by simp)
                  obtain ⟨t1, t2⟩ := w3.turnList (ys := xs.set n.toNat c) hx (w4.map _ _ m) hn' (g2.set rv n.toNat) (by simpa using g3)
                  simp only [lim] at g3
                  refine ki_setAt g1 hb.1 (by (first | lia | omega)) (by rw [List.size_toArray, ← ln]; exact hb.2) ?_
                  exact ⟨_, _, am3, w1, R3.step t2 t1 ⟨w5.gens, w5.os⟩, (af.trans t2).weaken⟩
        | none =>
          rw [hl] at w1
          dsimp only at w1
          cases hd : ob.asD with
          | none => rw [hd] at w1; exact w1.elim
          | some es =>
            rw [hd, Option.bind_some] at w1
            cases hu : u.asStr with
            | none => rw [hu] at w1; exact w1.elim
            | some k =>
              rw [hu, Option.bind_some] at w1
              rw [asStr_some hu] at w2
              rw [asD_some hd] at hx
              by_cases h4 : es.length < 400
              · rw [if_pos h4, onSome_some] at w1
                cases w2 with
                | str t hw =>
                  refine setItem_dict GO w3 hx (w4.map _ _ m) hw rv h4 fun h' t1 t2 => ?_
                  exact ⟨_, _, am3, w1, R3.step t2 t1 ⟨w5.gens, w5.os⟩, (af.trans t2).weaken⟩
              · rw [if_neg h4] at w1; exact w1.elim
end
end Mine

end
noncomputable section
namespace Mine
open PySem PySem.W PyProof.Rows

noncomputable def KeepBut (it : Addr) (h h' : Heap) : Prop := ∀ b o, b ≠ it → h.get? b = some o → h'.get? b = some o

structure IterP (G : Glb) (it : Addr) (grd : Hp → Prop) (P : List V → Heap → AM → Prop) : Prop where
  live : ∀ xs h am, P xs h am → ∃ o, h.get? it = some o ∧ (∀ items n, o.data ≠ .seq items n) ∧ (∀ C dx, o ≠ instObj C dx)
  keep : ∀ xs h am h' am', P xs h am → h'.get? it = h.get? it → TupKept h h' → AM.Le am am' → P xs h' am'
  next : ∀ (A : Around) (s : Shared) (am : AM) (hp : Hp) (x : V) (xs : List V) (T : Option Value → Shared → Prop) (E : Value → Shared → Prop), P (x :: xs) s.heap am → HR G am s.heap hp → grd hp →
    (∀ h' tk val, RV G.ws am h' x val → P xs h' am → KeepBut it s.heap h' → T (some val) { s with heap := h', toks := tk }) → wpAny (model G.prog G.w) A (pyNext (.ref it)) T E s
  fin : ∀ (A : Around) (s : Shared) (am : AM) (hp : Hp) (T : Option Value → Shared → Prop) (E : Value → Shared → Prop), A.handled = none → P [] s.heap am → HR G am s.heap hp → grd hp →
    (∀ h', KeepBut it s.heap h' → T none { s with heap := h' }) → wpAny (model G.prog G.w) A (pyNext (.ref it)) T E s
  goes : ∀ (A : Around) (s : Shared) (am : AM) (xs : List V) (t : PySem.Expr) (v : Value) (T : Unit → Shared → Prop) (E : Value → Shared → Prop), P xs s.heap am → (∀ h', P xs h' am → KeepBut it s.heap h' → T () { s with heap := h' }) → wpAny (model G.prog G.w) A (letOwnedTupleGo t (.ref it) v) T E s
  again : ∀ (A : Around) (s : Shared) (am : AM) (xs : List V) (T : Value → Shared → Prop) (E : Value → Shared → Prop), P xs s.heap am → T (.ref it) s → wpAny (model G.prog G.w) A (pyIter (.ref it)) T E s

theorem KeepBut.refl {it : Addr} {h : Heap} : KeepBut it h h := fun _ _ _ e => e
theorem Aft.transBut {own : List Addr} {h h1 h2 : Heap} {am am1 : AM} {it : Addr} (a : Aft own h am h1 am1) (k : KeepBut it h1 h2) (hn : h.get? it = none) (tk : TupKept h1 h2) : Aft own h am h2 am1 :=
  ⟨fun b o e n1 n2 => k b o (fun q => by rw [q, hn] at e; cases e) (a.keep b o e n1 n2), a.tup.trans tk, a.ext, fun b e => by
    have ne : b ≠ it := fun q => by rw [q, hn] at e; cases e
    have := a.live b e
    cases c : h1.get? b with
    | none => rw [c] at this; cases this
    | some o => rw [k b o ne c]; rfl⟩

section
variable {G : Glb} {g : Genv} {C N : Oracle} {env : Env} {names : List (Str × NameKind)} {r : Nat} {s : Shared} {am : AM} {loc : Locs} {hp : Hp} {A : Around} {E : Value → Shared → Prop}

theorem HR.keepBut {h h' : Heap} (x : HR G am h hp) {it : Addr} (k : KeepBut it h h') {o : Obj} (ho : h.get? it = some o) (hs : ∀ items n, o.data ≠ .seq items n) (hi : ∀ C dx, o ≠ instObj C dx) (hm : it ∉ am.muts) (hb : G.base.get? it = none) : HR G am h' hp ∧ TupKept h h' := by
  have tk : TupKept h h' := fun b items t => by
    obtain ⟨ob, hb, hcl, n, r⟩ := t
    have ne : b ≠ it := fun q => by rw [q, ho] at hb; cases hb; exact hs _ _ r
    exact ⟨ob, k _ _ ne hb, hcl, n, r⟩
  refine ⟨⟨x.len, x.nodup, fun i oi p h1 h2 => ?_, fun b ob e => k _ _ (fun e' => by rw [e', hb] at e; cases e) (x.base b ob e)⟩, tk⟩
  have n2 : p.2 ≠ it := fun e => hm (by rw [← e]; exact List.mem_map_of_mem (List.mem_of_getElem? h2))
  have n1 : p.1 ≠ it := fun e => n2 (by rw [← x.first ho hi p (List.mem_of_getElem? h2) e]; exact e)
  exact (x.objs i oi p h1 h2).mono tk (fun _ _ e => e) (fun ob e => k _ _ n1 e) (fun ob e => k _ _ n2 e)
theorem Rel.keepBut (R : Rel G env names s am loc hp) {h' : Heap} {tk : Nat} {it : Addr} (k : KeepBut it s.heap h') (hr : HR G am h' hp) (ht : TupKept s.heap h') (ho : it ∉ ownA env) : Rel G env names { s with heap := h', toks := tk } am loc hp := by
  obtain ⟨m, F, lr⟩ := R.fr
  have kp : ∀ b ∈ ownA env, ∀ o, s.heap.get? b = some o → h'.get? b = some o := fun b hb o e => k b o (fun q => ho (q ▸ hb)) e
  have cl : ∀ c x v, env.cells.lookup x = some c → s.heap.IsCell c v → h'.IsCell c v := fun c x v hl ⟨o, ho, hd⟩ =>
    ⟨o, kp c (by simp only [ownA, List.mem_cons, List.mem_map]; exact .inr ⟨(x, c), mem_of_lookup hl, rfl⟩) o ho, hd⟩
  have live : ∀ b ∈ ownA env, (s.heap.get? b).isSome = true → (h'.get? b).isSome = true := fun b hb e => by
    cases c : s.heap.get? b with
    | none => rw [c] at e; cases e
    | some o => rw [kp b hb o c]; rfl
  refine ⟨hr, ⟨m, ⟨?_, hr.base, F.above⟩, ?_⟩, R.own, ?_, R.apart, fun c hc => ⟨(R.apartL c hc).1, live _ (by simp only [ownA, List.mem_cons, List.mem_map]; exact .inr ⟨c, hc, rfl⟩) (R.apartL c hc).2⟩, R.len, ⟨R.same.gens, R.same.os⟩⟩
  · obtain ⟨o, es, ep, ho, r⟩ := F.ns
    exact ⟨o, es, ep, kp env.locals (by simp [ownA]) o ho, r⟩
  · intro i v e
    obtain ⟨x, k, val, h1, h2, h3⟩ := lr i v e
    refine ⟨x, k, val, h1, h2.mono ht (fun _ _ e => e), ?_⟩
    cases k <;> simp only [BindAt] at h3 ⊢
    · exact h3
    · obtain ⟨c, h4, h5⟩ := h3; exact ⟨c, h4, cl c x _ h4 h5⟩
    · obtain ⟨c, h4, h5⟩ := h3; exact ⟨c, h4, cl c x _ h4 h5⟩
  · intro x hx
    obtain ⟨c, v, h1, h2⟩ := R.cells x hx
    exact ⟨c, v, h1, cl c x v h1 h2⟩

theorem seqGone {T : String} {o : Obj} {it : Addr} {vs : Array Value} {t : PySem.Expr} {v : Value} {Q : Unit → Shared → Prop} (ho : s.heap.get? it = some o) (hc : o.cls = .type T) (hd : o.data = .fields vs)
    (hT : ["enumerate", "zip", "dict_itemiterator", "dict_reverseitemiterator", "odict_iterator", "itertools.zip_longest", "itertools.pairwise"].contains T = false) (h : Q () s) : wpAny (model G.prog G.w) A (letOwnedTupleGo t (.ref it) v) Q E s := by
  have key : ∀ a, v = .ref a → wpAny (model G.prog G.w) A (do
      let o ← load it
      match o.cls, o.data with
      | .type n, .fields vs =>
        if ["enumerate", "zip", "dict_itemiterator", "dict_reverseitemiterator", "odict_iterator", "itertools.zip_longest", "itertools.pairwise"].contains n && vs[0]? == some (rawInt a) then
          rule "for.unpacks-the-owned-tuple"
          updateField it 0 .none
      | _, _ => pure ()) Q E s := by
    intro a _
    refine wpAny_bind (wpAny_load ho ?_)
    rw [hc, hd]
    dsimp only
    rw [if_neg (by rw [hT]; simp)]
    exact wpAny_pure h
  cases t <;> first
    | exact wpAny_pure h
    | (cases v <;> first | exact wpAny_pure h | exact key _ rfl)

theorem iter_list {a : Nat} {xs : List V} {it l : Addr} (frozen : Bool) (hl : ∀ p, am[a]? = some p → p.1 = l) :
    IterP G it (fun h => h[a]? = some (if frozen then .flist xs else .list xs)) (fun ys h am' => AM.Le am am' ∧ (∃ p, am[a]? = some p) ∧ ∃ i, ys = xs.drop i ∧ h.IsListIter it l i) where
  live := fun ys h am' ⟨_, _, i, _, o, ho, hc, hd⟩ => ⟨o, ho, fun _ _ q => (by rw [q] at hd; cases hd), fun C dx e => (by rw [e] at hd; cases hd)⟩
  keep := fun ys h am' h' am'' ⟨h0, h1, i, h2, o, ho, hc, hd⟩ e _ le => ⟨fun j p q => le _ _ (h0 j p q), h1, i, h2, o, e.trans ho, hc, hd⟩
  next := fun A s am' hp y ys T E ⟨h0, ⟨p, h1⟩, i, h2, hit⟩ hr gd k => by
    have it' : (if frozen then O.flist xs else .list xs).items = some xs := by cases frozen <;> rfl
    obtain ⟨vs, n, ob, g1, g2, g3, g4, g5⟩ := hr.items gd it' (h0 _ _ h1)
    rw [hl p h1] at g1
    have hy : xs[i]? = some y := by
      have := congrArg (·[0]?) h2
      simpa using this.symm
    obtain ⟨v, v1, v2⟩ := g4.get hy
    refine wpAny_pyNext_list_item hit ⟨ob, g1, g2, n, g3⟩ (x := v) (by simpa using v1) fun h' hit' hs => ?_
    obtain ⟨oi, hoi, hic, hid⟩ := hit
    have tk : TupKept s.heap h' := fun b items t => by
      obtain ⟨ob, hb, hcl, n, r⟩ := t
      have ne : b ≠ it := fun q => by rw [q, hoi] at hb; cases hb; rw [r] at hid; cases hid
      exact ⟨ob, (hs.2 b ne).trans hb, hcl, n, r⟩
    refine k h' s.toks v (v2.mono tk fun _ _ e => e) ⟨h0, ⟨p, h1⟩, i + 1, ?_, hit'⟩ fun b o ne e => (hs.2 b ne).trans e
    have := congrArg List.tail h2
    simpa [List.tail_drop] using this
  fin := fun A s am' hp T E hh ⟨h0, ⟨p, h1⟩, i, h2, hit⟩ hr gd k => by
    have it' : (if frozen then O.flist xs else .list xs).items = some xs := by cases frozen <;> rfl
    obtain ⟨vs, n, ob, g1, g2, g3, g4, g5⟩ := hr.items gd it' (h0 _ _ h1)
    rw [hl p h1] at g1
    have hlen : xs.length ≤ i := by
      have := congrArg List.length h2
      simp at this; (first | lia | omega)
    refine wpAny_pyNext_list_end hh hit ⟨ob, g1, g2, n, g3⟩ (by simp; have := g4.length; (first | lia | omega)) fun h' he => ?_
    exact k h' fun b o ne e => he b o ne e
  goes := fun A s am' ys t v T E ⟨h0, h1, i, h2, hit⟩ k => by
    obtain ⟨o, ho, hc, hd⟩ := hit
    exact seqGone ho hc hd (by decide) (k s.heap ⟨h0, h1, i, h2, o, ho, hc, hd⟩ .refl)
  again := fun A s am' ys T E ⟨h0, h1, i, h2, hit⟩ k => wpAny_pyIter_listiter hit k
end
end Mine

end
noncomputable section
namespace Mine
open PySem PySem.W PyProof.Rows

section
variable {G : Glb} {g : Genv} {C N : Oracle} {env : Env} {names : List (Str × NameKind)} {r : Nat} {s : Shared} {am : AM} {loc : Locs} {hp : Hp} {A : Around} {E : Value → Shared → Prop}

theorem iter_tup {xs : List V} {vs : List Value} {it t : Addr} : IterP G it (fun _ => True) (fun ys h am' => IsTup h t vs.toArray ∧ RVs G.ws am' h xs vs ∧ ∃ i, ys = xs.drop i ∧ IsTupIter h it t i) where
  live := fun ys h am' ⟨_, _, i, _, o, ho, hc, hd⟩ => ⟨o, ho, fun _ _ q => (by rw [q] at hd; cases hd), fun C dx e => (by rw [e] at hd; cases hd)⟩
  keep := fun ys h am' h' am'' ⟨h0, h1, i, h2, o, ho, hc, hd⟩ e tk le => ⟨tk _ _ h0, h1.mono tk le, i, h2, o, e.trans ho, hc, hd⟩
  next := fun A s am' hp y ys T E ⟨h0, h1, i, h2, hit⟩ hr gd k => by
    have hy : xs[i]? = some y := by
      have := congrArg (·[0]?) h2
      simpa using this.symm
    obtain ⟨v, v1, v2⟩ := h1.get hy
    refine next_tuple_item hit h0 (x := v) (by simpa using v1) fun h' hit' hs => ?_
    obtain ⟨oi, hoi, hic, hid⟩ := hit
    have tk : TupKept s.heap h' := fun b items t => by
      obtain ⟨ob, hb, hcl, n, r⟩ := t
      have ne : b ≠ it := fun q => by rw [q, hoi] at hb; cases hb; rw [r] at hid; cases hid
      exact ⟨ob, (hs.2 b ne).trans hb, hcl, n, r⟩
    refine k h' s.toks v (v2.mono tk fun _ _ e => e) ⟨tk _ _ h0, h1.mono tk fun _ _ e => e, i + 1, ?_, hit'⟩ fun b o ne e => (hs.2 b ne).trans e
    have := congrArg List.tail h2
    simpa [List.tail_drop] using this
  fin := fun A s am' hp T E hh ⟨h0, h1, i, h2, hit⟩ hr gd k => by
    have hlen : xs.length ≤ i := by
      have := congrArg List.length h2
      simp at this; (first | lia | omega)
    refine next_tuple_end hh hit h0 (by simp; have := h1.length; (first | lia | omega)) fun h' he => k h' fun b o ne e => he b o ne e
  goes := fun A s am' ys t v T E ⟨h0, h1, i, h2, hit⟩ k => by
    obtain ⟨o, ho, hc, hd⟩ := hit
    exact seqGone ho hc hd (by decide) (k s.heap ⟨h0, h1, i, h2, o, ho, hc, hd⟩ .refl)
  again := fun A s am' ys T E ⟨h0, h1, i, h2, hit⟩ k => wpAny_pyIter_tupleiter hit k

theorem iter_range {it : Addr} : IterP G it (fun _ => True) (fun ys h _ => ∃ x n, ys = rangeL x n ∧ IsRangeIter h it x (n : Int) 1) where
  live := fun ys h am' ⟨x, n, h1, h2⟩ => ⟨_, h2, fun _ _ q => (by cases q), fun C dx e => (by cases e)⟩
  keep := fun ys h am' h' am'' ⟨x, n, h1, h2⟩ e _ _ => ⟨x, n, h1, e.trans h2⟩
  next := fun A s am' hp y ys T E ⟨x, n, h1, h2⟩ hr gd k => by
    cases n with
    | zero => simp [rangeL] at h1
    | succ n =>
      simp only [rangeL, List.cons.injEq] at h1
      obtain ⟨rfl, rfl⟩ := h1
      refine wpAny_pyNext_range_item h2 (by (first | lia | omega)) fun h' hit' hs => ?_
      refine k h' _ _ (.int x s.toks) ⟨x + 1, n, rfl, ?_⟩ fun b o ne e => (hs.2 b ne).trans e
      have : ((n + 1 : Nat) : Int) - 1 = (n : Int) := by (first | lia | omega)
      rw [this] at hit'; exact hit'
  fin := fun A s am' hp T E hh ⟨x, n, h1, h2⟩ hr gd k => by
    cases n with
    | succ n => simp [rangeL] at h1
    | zero => exact wpAny_pyNext_range_end hh h2 (by simp) fun h' he => k h' fun b o ne e => he b o ne e
  goes := fun A s am' ys t v T E ⟨x, n, h1, h2⟩ k => seqGone h2 rfl rfl (by decide) (k s.heap ⟨x, n, h1, h2⟩ .refl)
  again := fun A s am' ys T E ⟨x, n, h1, h2⟩ k => wpAny_pyIter_rangeiter h2 k

theorem while_unroll {M : Model} {test : PySem.Expr} {body : List Stmt} {Rr : Result → Shared → Prop}
    (h : wpAny (model G.prog G.w) A (isTrue test env (eval test env)) (fun b s2 => if b then wpAny (model G.prog G.w) A (execs body env) (fun f s3 => match f with
        | .next | .cont => codeAny (model G.prog G.w) A (.whileLoop test body [] env) Rr s3
        | .brk => Rr (.ok .next) s3
        | .ret v => Rr (.ok (.ret v)) s3) (fun _ _ => False) s2 else Rr (.ok .next) s2) (fun _ _ => False) s) : codeAny (model G.prog G.w) A (.whileLoop test body [] env) Rr s := by
  refine codeAny_of_tree ?_
  rw [Around.under_of_weight (c := .whileLoop test body [] env) rfl]
  show wpAny _ A ((whileTurn test body [] env).onRaise (fun x => do noteFrame x env; theTreesLotGoes x)) _ _ s
  refine wpAny_onRaise ?_
  simp only [whileTurn]
  refine wpAny_bind (wpAny_mono h (fun b s2 h2 => ?_) fun _ _ x => x.elim)
  cases b with
  | false =>
    simp only [Bool.false_eq_true, if_false] at h2 ⊢
    exact wpAny_bind (wpAny_execs_nil (wpAny_pure h2))
  | true =>
    simp only [if_true] at h2 ⊢
    refine wpAny_bind (wpAny_mono h2 (fun f s3 h3 => ?_) fun _ _ x => x.elim)
    cases f with
    | next => exact wpAny_pure ⟨rfl, h3⟩
    | cont => exact wpAny_pure ⟨rfl, h3⟩
    | brk => exact wpAny_pure h3
    | ret v => exact wpAny_pure h3

theorem for_unroll {target : PySem.Expr} {it : Value} {body : List Stmt} {Rr : Result → Shared → Prop}
    (h : wpAny (model G.prog G.w) A (pyNext it) (fun rr s1 => match rr with
      | none => Rr (.ok .next) s1
      | some v => wpAny (model G.prog G.w) A (letOwnedTupleGo target it v) (fun _ s1' => wpAny (model G.prog G.w) A (assign target env v) (fun _ s2 => wpAny (model G.prog G.w) A (execs body env) (fun f s3 => match f with
        | .next | .cont => codeAny (model G.prog G.w) A (.forLoop target it body [] env) Rr s3
        | .brk => Rr (.ok .next) s3
        | .ret v => Rr (.ok (.ret v)) s3) (fun _ _ => False) s2) (fun _ _ => False) s1') (fun _ _ => False) s1) (fun _ _ => False) s) : codeAny (model G.prog G.w) A (.forLoop target it body [] env) Rr s := by
  refine codeAny_of_tree ?_
  rw [Around.under_of_weight (c := .forLoop target it body [] env) rfl]
  show wpAny _ A ((forTurn target it body [] env).onRaise (fun x => do noteFrame x env; theTreesLotGoes x)) _ _ s
  refine wpAny_onRaise ?_
  simp only [forTurn]
  refine wpAny_bind (wpAny_standAt (wpAny_bind (wpAny_onRaise (wpAny_mono h (fun rr s1 h1 => ?_) fun _ _ x => x.elim))))
  cases rr with
  | none => exact wpAny_pure ⟨rfl, codeAny_block (wpAny_execs_nil h1)⟩
  | some v =>
    refine wpAny_bind (wpAny_mono h1 (fun _ s1' h1' => ?_) fun _ _ x => x.elim)
    refine wpAny_bind (wpAny_mono h1' (fun _ s2 h2 => wpAny_bind (wpAny_mono h2 (fun f s3 h3 => ?_) fun _ _ x => x.elim)) fun _ _ x => x.elim)
    cases f with
    | next => exact wpAny_pure ⟨rfl, h3⟩
    | cont => exact wpAny_pure ⟨rfl, h3⟩
    | brk => exact wpAny_pure h3
    | ret v => exact wpAny_pure h3
end
end Mine

end
noncomputable section
namespace Mine
open PySem PySem.W PyProof.Rows

noncomputable def foldedPlain : PySem.Expr → Bool
  | .Set .. => false
  | _ => true
theorem folded_plain {e : PySem.Expr} (h : foldedPlain e = true) (env : Env) (x : Value) : foldedSetIterable e env x = pure x := by
  cases e <;> first | rfl | cases h

section
variable {G : Glb} {g : Genv} {C N : Oracle} {env : Env} {names : List (Str × NameKind)} {r : Nat}

noncomputable def ItStart (G : Glb) (s : Shared) (am : AM) (K : List V → (Hp → Prop) → Hp → Prop) (it : Value) (s2 : Shared) : Prop :=
  ∃ a xs grd P hp' am', it = .ref a ∧ K xs grd hp' ∧ IterP G a grd P ∧ P xs s2.heap am' ∧ HR G am' s2.heap hp' ∧ Aft [] s.heap am s2.heap am' ∧ s.heap.get? a = none ∧ a ∉ am'.muts ∧ G.base.get? a = none ∧ Same G s2
noncomputable def SndIt (G : Glb) (g : Genv) (C N : Oracle) (env : Env) (names : List (Str × NameKind)) (r : Nat) (e : PySem.Expr) (k : ItK) (i : Mine.E) : Prop :=
  ∀ (loc : Locs) (hp : Hp) (K : List V → (Hp → Prop) → Hp → Prop) (X : Nat → Hp → Prop) (A : Around) (s : Shared) (am : AM) (E : Value → Shared → Prop),
    wpE g C N loc i hp (fun v h => onSome (itop k v h) fun p => K p.1 p.2 h) X → Room X A r → Rel G env names s am loc hp →
    wpAny (model G.prog G.w) A (eval e env) (fun x s1 => wpAny (model G.prog G.w) A (pyIter x) (ItStart G s am K) E s1) E s

theorem itStart_push {s s1 : Shared} {am am1 : AM} {K : List V → (Hp → Prop) → Hp → Prop} {xs : List V} {grd : Hp → Prop} {P : List V → Heap → AM → Prop} {hp1 : Hp} {o : Obj} {tk : Nat} (k : K xs grd hp1) (ip : IterP G s1.heap.objs.size grd P) (px : P xs (s1.heap.push o) am1) (hr : HR G am1 s1.heap hp1) (a : Aft [] s.heap am s1.heap am1) (sm : Same G s1) :
    ItStart G s am K (.ref s1.heap.objs.size) { s1 with heap := s1.heap.push o, toks := tk } := by
  have kp := keep_push (h := s1.heap) o
  refine ⟨_, xs, grd, P, hp1, am1, rfl, k, ip, px, hr.keepAll kp, a.trans (Aft.ofKeep kp), ?_, ?_, ?_, ⟨sm.gens, sm.os⟩⟩
  · cases c : s.heap.get? s1.heap.objs.size with
    | none => rfl
    | some o => have := a.live _ (by rw [c]; rfl); rw [get_none_of_size] at this; cases this
  · intro hm
    obtain ⟨p, hp, e⟩ := List.mem_map.mp hm
    obtain ⟨-, ob, hb, -⟩ := hr.live hp
    rw [e, get_none_of_size] at hb; cases hb
  · cases c : G.base.get? s1.heap.objs.size with
    | none => rfl
    | some o => have := hr.base _ _ c; rw [get_none_of_size] at this; cases this

theorem sndIt_seq {e : PySem.Expr} {i : Mine.E} (h1 : Snd G g C N env names r e i) : SndIt G g C N env names r e .seq i := fun loc hp K X A s am E h rm R => by
  refine wpAny_mono (h1 loc hp _ X A s am h rm R) (fun x s1 z => ?_) fun _ _ z => z.no.elim
  obtain ⟨v, p1, am1, z1, z2, z3, z4, z5⟩ := z
  cases z2 with
  | tup ht rs l =>
    rename_i a vs
    refine PyProof.Rows.iter_tuple ht ?_
    exact itStart_push z1 (iter_tup (vs := vs) (t := a)) ⟨ht.keeps (keep_push _), rs.mono (TupKept.push _) (fun _ _ e => e), 0, by simp, _, Heap.get?_push_size _ rfl, rfl, rfl⟩ z3 z4 z5
  | ref m =>
    rename_i a p
    change onSome ((p1[a]?).bind fun o => o.items.map fun xs => (xs, fun h' : Hp => h'[a]? = some o)) _ at z1
    cases hx : p1[a]? with
    | none => rw [hx] at z1; exact z1.elim
    | some o =>
      rw [hx] at z1
      cases o with
      | list xs =>
        obtain ⟨vs, n, ob, g1, g2, g3, g4, g5⟩ := z3.items hx rfl m
        refine wpAny_pyIter_list ⟨ob, g1, g2, n, g3⟩ ?_
        exact itStart_push z1 (iter_list (xs := xs) (am := am1) false (fun q hq => by rw [m] at hq; cases hq; rfl)) ⟨fun _ _ e => e, ⟨_, m⟩, 0, by simp, _, Heap.get?_push_size _ rfl, rfl, rfl⟩ z3 z4 z5
      | flist xs =>
        obtain ⟨vs, n, ob, g1, g2, g3, g4, g5⟩ := z3.items hx rfl m
        refine wpAny_pyIter_list ⟨ob, g1, g2, n, g3⟩ ?_
        exact itStart_push z1 (iter_list (xs := xs) (am := am1) true (fun q hq => by rw [m] at hq; cases hq; rfl)) ⟨fun _ _ e => e, ⟨_, m⟩, 0, by simp, _, Heap.get?_push_size _ rfl, rfl, rfl⟩ z3 z4 z5
      | _ => exact z1.elim
  | _ => exact z1.elim

theorem sndIt_range (GK : GG G g) (O : EnvOk env names) {e : PySem.Expr} {i : Mine.E} {p pos : Pos} (hk : env.kindOf "range" = some .globalImplicit) (hm : nsIn G.K mainGlobals "range" = some none) (hn : notStar e = true) (h1 : Snd G g C N env names r e i) :
    SndIt G g C N env names r (.Call (.Name "range" p) [e] [] pos) .range i := fun loc hp K X A s am E h rm R => by
  rw [eval_Call_plain ⟨_, _, rfl⟩]
  refine wpAny_bind (snd_builtin GK O R hk (by decide) hm (v := .type "range") (by decide +kernel) (by decide) ?_)
  refine callWith_es (P := fun _ => True) (by simp only [List.all_cons, hn, List.all_nil, Bool.and_true]) (fun _ _ => keeper_type) ?_
  rw [starEach_cons hn]
  refine Calls.spliced_cons (wpAny_mono (h1 loc hp _ X A s am h rm R) (fun v s1 z => Calls.spliced_nil ⟨trivial, ?_⟩) fun _ _ z => z.no.elim)
  obtain ⟨c, p1, am1, z1, z2, z3, z4, z5⟩ := z
  cases z2 with
  | int n t =>
    change onSome (if -1000 ≤ n ∧ n ≤ lim ∧ (0 : Int) ≤ 0 ∧ (0 : Int) ≤ lim then some (rangeL 0 (n - 0).toNat, fun _ : Hp => True) else none) _ at z1
    by_cases hl : -1000 ≤ n ∧ n ≤ lim
    · rw [if_pos ⟨hl.1, hl.2, by decide, by decide⟩, onSome_some, Int.sub_zero] at z1
      refine call_range_1 ?_
      have kp := keep_push (h := s1.heap) ({ cls := .type "range", data := .fields #[.int 0 s1.toks, .int n t, .int 1 (s1.toks + 1)] } : Obj)
      have sz : Builtin.Range.rangeSize 0 n 1 = (n.toNat : Int) := by rw [rangeSize_nat]; simp
      have sm : Builtin.Range.small 0 n 1 = true := by
        exact small_one (by (first | lia | omega)) (by (first | lia | omega)) (by (first | lia | omega)) (by simp only [lim] at hl; (first | lia | omega))
      refine wpAny_pyIter_range (IsRange.new ..) sm ?_
      rw [sz]
      exact itStart_push (s1 := { s1 with heap := s1.heap.push { cls := .type "range", data := .fields #[.int 0 s1.toks, .int n t, .int 1 (s1.toks + 1)] }, toks := s1.toks + 1 + 1 }) z1 iter_range ⟨0, n.toNat, rfl, Heap.get?_push_size _ rfl⟩ (z3.keepAll kp) (z4.trans (Aft.ofKeep kp)) ⟨z5.gens, z5.os⟩
    · rw [if_neg (fun z => hl ⟨z.1, z.2.1⟩)] at z1; exact z1.elim
  | _ => exact z1.elim
end
end Mine

end
noncomputable section
namespace Mine
open PySem PySem.W PyProof.Rows

theorem sub_ri_reversed : isSubtype (.type "range_iterator") (.type "reversed") = pure false := by rw [isSubtype_type]; kernel_rfl
noncomputable def revSmall (a b c : Int) : Bool := Builtin.Range.rangeFitsLong a && Builtin.Range.rangeFitsLong b && Builtin.Range.rangeFitsLong c && Builtin.Range.rangeFitsLong (-c) && Builtin.Range.rangeFitsLong (a - c) && Builtin.Range.rangeFitsLong (Builtin.Range.rangeSize a b c)
theorem meets_rrev (r : Addr) (a b c : Int) (t u v : Tok) (hs : revSmall a b c = true) :
    Meets (Builtin.«range.__reversed__» ⟨[.ref r], []⟩) (fun _ R s => s.heap.get? r = some { cls := .type "range", dict := none, data := .fields #[.int a t, .int b u, .int c v], slots := #[] } ∧
      R (.ok (.ret (Value.ref s.heap.objs.size))) { s with heap := s.heap.push { cls := .type "range_iterator", data := .fields #[rawInt (a + (Builtin.Range.rangeSize a b c - 1) * c), rawInt (Builtin.Range.rangeSize a b c), rawInt (-c)] } }) :=
  .of_wp fun prog w A R s h => by
    unfold revSmall at hs
    obtain ⟨hp, g, d, tk, os⟩ := s
    obtain ⟨hl, h⟩ := h
    wp_walk
    refine ⟨_, rfl, ?_⟩
    rw [if_pos hs]
    exact h

section
variable {prog : Program} {w : World} {A : Around} {E : Value → Shared → Prop} {s : Shared}
theorem call_range_rev {r : Addr} {a b c : Int} {t u v : Tok} {Q : Value → Shared → Prop} (hr : IsRange s.heap r a b c t u v) (hs : revSmall a b c = true)
    (h : Q (.ref s.heap.objs.size) { s with heap := s.heap.push { cls := .type "range_iterator", data := .fields #[rawInt (a + (Builtin.Range.rangeSize a b c - 1) * c), rawInt (Builtin.Range.rangeSize a b c), rawInt (-c)] } }) :
    wpAny (model prog w) A (call (.builtin "range.__reversed__") [.ref r]) Q E s :=
  call_meets F.slot_range_reversed ⟨_, hr, rfl⟩ F.entry_range_reversed (F.args_range_reversed_1 _) (meets_rrev r a b c t u v hs) ⟨hr, h⟩

theorem code_rev_range {r : Addr} {a b c : Int} {t u v : Tok} {Q₁ : Value → Shared → Prop} (hr : IsRange s.heap r a b c t u v) (hs : revSmall a b c = true)
    (h : Q₁ (.ref s.heap.objs.size) { s with heap := s.heap.push { cls := .type "range_iterator", data := .fields #[rawInt (a + (Builtin.Range.rangeSize a b c - 1) * c), rawInt (Builtin.Range.rangeSize a b c), rawInt (-c)] } }) :
    codeAny (model prog w) A (.call (.builtin "reversed.__new__") ⟨[.type "reversed", .ref r], []⟩) (wants Q₁ E) s := by
  have hT : s.TypeIs (.ref r) "range" := ⟨_, hr, rfl⟩
  refine codeAny_of_tree ?_
  show wpAny _ A.in1 (do checkBuiltinCall "reversed.__new__" ⟨[.type "reversed", .ref r], []⟩; again (.builtin "reversed.__new__" ⟨[.type "reversed", .ref r], []⟩)) _ _ s
  refine wpAny_bind (wpAny_of_eq (F.newCall_reversed_1 _) (wpAny_pure ⟨plainId_quiet F.plain_reversed_new _, codeAny_builtin F.entry_reversed_new ?_⟩))
  rw [Around.under_plainId F.plain_reversed_new _]
  unfold Builtin.«reversed.__new__»
  refine wpAny_bind (wpAny_of_eq (newClass_reversed _) ?_)
  dsimp only
  refine wpAny_bind (wpAny_of_eq (a := ()) (by first | rfl | kernel_rfl) ?_)
  refine wpAny_bind (wpAny_of_eq (a := ()) (by first | rfl | kernel_rfl) ?_)
  refine wpAny_bind (wpAny_specialOf hT F.slot_range_reversed.lookup ?_)
  dsimp only
  refine wpAny_bind (wpAny_of_eq (F.slot_range_reversed.bind _) ?_)
  dsimp only
  rw [if_neg (show ¬ ((Value.builtin "range.__reversed__" == Value.none) = true) from Bool.false_ne_true)]
  refine wpAny_bind (wpAny_rule ?_)
  refine wpAny_bind (m := runValue (.call (.builtin "range.__reversed__") ⟨[.ref r], []⟩)) (show wpAny _ _ (call (.builtin "range.__reversed__") [.ref r]) _ _ _ from call_range_rev hr hs ?_)
  first
  | exact wpAny_pure h
  | exact wpAny_bind (wpAny_pure (wpAny_pure h))

theorem call_rev_range {r : Addr} {a b c : Int} {t u v : Tok} {Q : Value → Shared → Prop} (hr : IsRange s.heap r a b c t u v) (hs : revSmall a b c = true)
    (h : Q (.ref s.heap.objs.size) { s with heap := s.heap.push { cls := .type "range_iterator", data := .fields #[rawInt (a + (Builtin.Range.rangeSize a b c - 1) * c), rawInt (Builtin.Range.rangeSize a b c), rawInt (-c)] } }) :
    wpAny (model prog w) A (call (.type "reversed") [.ref r]) Q E s := by
  refine callType_other (U := "range_iterator") (Q₁ := fun obj s₁ => obj = .ref s.heap.objs.size ∧ s₁ = { s with heap := s.heap.push { cls := .type "range_iterator", data := .fields #[rawInt (a + (Builtin.Range.rangeSize a b c - 1) * c), rawInt (Builtin.Range.rangeSize a b c), rawInt (-c)] } }) (by decide +kernel) F.create_reversed ⟨_, _, F.mro_reversed⟩ F.made_reversed sub_ri_reversed (F.typeCall_reversed_1 _) (code_rev_range hr hs ⟨rfl, rfl⟩) ?_
  rintro obj s₁ ⟨rfl, rfl⟩
  exact ⟨⟨_, Heap.get?_push_size _ rfl, rfl⟩, h⟩
end

noncomputable def downL (x : Int) : Nat → List V
  | 0 => []
  | n + 1 => .int x :: downL (x - 1) n
theorem downL_snoc : ∀ (n : Nat) (x : Int), downL x (n + 1) = downL x n ++ [.int (x - n)]
  | 0, x => by simp [downL]
  | n + 1, x => by
    rw [downL, downL_snoc n (x - 1), downL, List.cons_append]
    congr 4
    (first | lia | omega)
theorem rangeL_snoc : ∀ (n : Nat) (lo : Int), rangeL lo (n + 1) = rangeL lo n ++ [.int (lo + n)]
  | 0, lo => by simp [rangeL]
  | n + 1, lo => by
    rw [rangeL, rangeL_snoc n (lo + 1), rangeL, List.cons_append]
    congr 4
    (first | lia | omega)
theorem rev_down : ∀ (n : Nat) (lo : Int), (rangeL lo n).reverse = downL (lo + n - 1) n
  | 0, lo => rfl
  | n + 1, lo => by
    rw [rangeL_snoc, List.reverse_append, rev_down n lo, downL]
    simp only [List.reverse_cons, List.reverse_nil, List.nil_append, List.singleton_append]
    congr 2 <;> (first | lia | omega)

section
variable {G : Glb} {g : Genv} {C N : Oracle} {env : Env} {names : List (Str × NameKind)} {r : Nat}

theorem iter_down {it : Addr} : IterP G it (fun _ => True) (fun ys h _ => ∃ x n, ys = downL x n ∧ IsRangeIter h it x (n : Int) (-1)) where
  live := fun ys h am' ⟨x, n, h1, h2⟩ => ⟨_, h2, fun _ _ q => (by cases q), fun C dx e => (by cases e)⟩
  keep := fun ys h am' h' am'' ⟨x, n, h1, h2⟩ e _ _ => ⟨x, n, h1, e.trans h2⟩
  next := fun A s am' hp y ys T E ⟨x, n, h1, h2⟩ hr gd k => by
    cases n with
    | zero => cases h1
    | succ n =>
      simp only [downL, List.cons.injEq] at h1
      obtain ⟨rfl, rfl⟩ := h1
      refine wpAny_pyNext_range_item h2 (by (first | lia | omega)) fun h' hit' hs => ?_
      refine k h' _ _ (.int x s.toks) ⟨x - 1, n, rfl, ?_⟩ fun b o ne e => (hs.2 b ne).trans e
      have : ((n + 1 : Nat) : Int) - 1 = (n : Int) := by (first | lia | omega)
      rw [this] at hit'; exact hit'
  fin := fun A s am' hp T E hh ⟨x, n, h1, h2⟩ hr gd k => by
    cases n with
    | succ n => cases h1
    | zero => exact wpAny_pyNext_range_end hh h2 (by simp) fun h' he => k h' fun b o ne e => he b o ne e
  goes := fun A s am' ys t v T E ⟨x, n, h1, h2⟩ k => seqGone h2 rfl rfl (by decide) (k s.heap ⟨x, n, h1, h2⟩ .refl)
  again := fun A s am' ys T E ⟨x, n, h1, h2⟩ k => wpAny_pyIter_rangeiter h2 k

theorem sndIt_rev (GK : GG G g) (O : EnvOk env names) {e : PySem.Expr} {i : Mine.E} {p pos p2 pos2 : Pos} (hk : env.kindOf "reversed" = some .globalImplicit) (hm : nsIn G.K mainGlobals "reversed" = some none) (hk2 : env.kindOf "range" = some .globalImplicit) (hm2 : nsIn G.K mainGlobals "range" = some none) (hn : notStar e = true) (h1 : Snd G g C N env names r e i) :
    SndIt G g C N env names r (.Call (.Name "reversed" p) [.Call (.Name "range" p2) [e] [] pos2] [] pos) .revRange i := fun loc hp K X A s am E h rm R => by
  rw [eval_Call_plain ⟨_, _, rfl⟩]
  refine wpAny_bind (snd_builtin GK O R hk (by decide) hm (v := .type "reversed") (by decide +kernel) (by decide) ?_)
  refine callWith_es (P := fun _ => True) (by rfl) (fun _ _ => keeper_type) ?_
  rw [starEach_cons (by rfl)]
  refine Calls.spliced_cons ?_
  rw [eval_Call_plain ⟨_, _, rfl⟩]
  refine wpAny_bind (snd_builtin GK O R hk2 (by decide) hm2 (v := .type "range") (by decide +kernel) (by decide) ?_)
  refine callWith_es (P := fun _ => True) (by simp only [List.all_cons, hn, List.all_nil, Bool.and_true]) (fun _ _ => keeper_type) ?_
  rw [starEach_cons hn]
  refine Calls.spliced_cons (wpAny_mono (h1 loc hp _ X A s am h rm R) (fun v s1 z => Calls.spliced_nil ⟨trivial, ?_⟩) fun _ _ z => z.no.elim)
  obtain ⟨c, p1, am1, z1, z2, z3, z4, z5⟩ := z
  cases z2 with
  | int n t =>
    change onSome ((if -1000 ≤ n ∧ n ≤ lim ∧ (0 : Int) ≤ 0 ∧ (0 : Int) ≤ lim then some (rangeL 0 (n - 0).toNat, fun _ : Hp => True) else none).map fun p => (p.1.reverse, p.2)) _ at z1
    by_cases hl : -1000 ≤ n ∧ n ≤ lim
    · rw [if_pos ⟨hl.1, hl.2, by decide, by decide⟩, Option.map_some, onSome_some, Int.sub_zero] at z1
      refine call_range_1 ?_
      have kp := keep_push (h := s1.heap) ({ cls := .type "range", data := .fields #[.int 0 s1.toks, .int n t, .int 1 (s1.toks + 1)] } : Obj)
      have sz : Builtin.Range.rangeSize 0 n 1 = (n.toNat : Int) := by rw [rangeSize_nat]; simp
      have fl : ∀ j : Int, -2000 ≤ j → j ≤ 20000000 → Builtin.Range.rangeFitsLong j = true := fun j a b => by
        unfold Builtin.Range.rangeFitsLong
        simp only [decide_eq_true_eq, Bool.and_eq_true]
        (first | lia | omega)
      simp only [lim] at hl
      have sm : revSmall 0 n 1 = true := by
        unfold revSmall
        rw [sz, fl 0 (by decide) (by decide), fl n (by (first | lia | omega)) (by (first | lia | omega)), fl 1 (by decide) (by decide), fl (-1) (by decide) (by decide), fl (0 - 1) (by decide) (by decide), fl _ (by (first | lia | omega)) (by (first | lia | omega))]
        rfl
      refine Calls.spliced_nil ⟨trivial, ?_⟩
      refine call_rev_range (IsRange.new ..) sm ?_
      rw [sz]
      have kp2 := keep_push (h := s1.heap.push { cls := .type "range", data := .fields #[.int 0 s1.toks, .int n t, .int 1 (s1.toks + 1)] }) ({ cls := .type "range_iterator", data := .fields #[rawInt (0 + ((n.toNat : Int) - 1) * 1), rawInt (n.toNat : Int), rawInt (-1)] } : Obj)
      have ri : IsRangeIter ((s1.heap.push { cls := .type "range", data := .fields #[.int 0 s1.toks, .int n t, .int 1 (s1.toks + 1)] }).push { cls := .type "range_iterator", data := .fields #[rawInt (0 + ((n.toNat : Int) - 1) * 1), rawInt (n.toNat : Int), rawInt (-1)] }) (s1.heap.push { cls := .type "range", data := .fields #[.int 0 s1.toks, .int n t, .int 1 (s1.toks + 1)] }).objs.size (0 + ((n.toNat : Int) - 1) * 1) (n.toNat : Int) (-1) := Heap.get?_push_size _ rfl
      refine wpAny_pyIter_rangeiter ri ?_
      refine itStart_push (s1 := { s1 with heap := s1.heap.push { cls := .type "range", data := .fields #[.int 0 s1.toks, .int n t, .int 1 (s1.toks + 1)] }, toks := s1.toks + 1 + 1 }) z1 iter_down ⟨0 + ((n.toNat : Int) - 1) * 1, n.toNat, ?_, ri⟩ (z3.keepAll kp) (z4.trans (Aft.ofKeep kp)) ⟨z5.gens, z5.os⟩
      rw [rev_down]
      congr 1
      rw [Int.mul_one, Int.zero_add, Int.zero_add]
    · rw [if_neg (fun z => hl ⟨z.1, z.2.1⟩)] at z1; exact z1.elim
  | _ => exact z1.elim
end
end Mine

end
noncomputable section
namespace Mine
open PySem PySem.W PyProof.Rows

section
variable {G : Glb} {g : Genv} {C N : Oracle} {env : Env} {names : List (Str × NameKind)} {r : Nat}

noncomputable def SndTgt (G : Glb) (b : Bool) (env : Env) (names : List (Str × NameKind)) (t : PySem.Expr) (is : List Nat) : Prop :=
  ∀ (A : Around) (s : Shared) (am : AM) (loc loc' : Locs) (hp : Hp) (v : V) (val : Value) (T : Unit → Shared → Prop) (E : Value → Shared → Prop), A.handled = none → bindT is v loc = some loc' → RV G.ws am s.heap v val → Rel G env names s am loc hp →
    (∀ s', Rel G env names s' am loc' hp → Aft (ownB env b) s.heap am s'.heap am → T () s') → wpAny (model G.prog G.w) A (assign t env val) T E s

theorem tgt_name {b : Bool} (O : EnvOk env names) {x : Str} {k : NameKind} {j : Nat} {p : Pos} (hx : names[j]? = some (x, k)) (hk : kB b k) : SndTgt G b env names (.Name x p) [j] := fun A s am loc loc' hp v val T E _ hb rv R h => by
  simp only [bindT] at hb
  split at hb
  · cases hb
    exact wpAny_assign_Name (store_own O R hx hk rv h)
  · cases hb

inductive TgNames (b : Bool) (names : List (Str × NameKind)) : List PySem.Expr → List Nat → Prop
  | nil : TgNames b names [] []
  | cons {x : Str} {k : NameKind} {j : Nat} {p : Pos} {es : List PySem.Expr} {is : List Nat} : names[j]? = some (x, k) → kB b k → TgNames b names es is → TgNames b names (.Name x p :: es) (j :: is)
theorem TgNames.len {b : Bool} {es : List PySem.Expr} {is : List Nat} (t : TgNames b names es is) : (assignEach es env).length = is.length ∧ (assignEach es env).findIdx? (·.1) = none := by
  induction t with
  | nil => exact ⟨rfl, rfl⟩
  | cons h1 h2 t ih =>
    refine ⟨congrArg Nat.succ ih.1, ?_⟩
    show List.findIdx? (·.1) ((false, _) :: assignEach _ env) = none
    rw [List.findIdx?_cons]; simp [ih.2]
theorem bindAll_len {is : List Nat} : ∀ {vs : List V} {l l' : Locs}, bindAll is vs l = some l' → is.length = vs.length := by
  induction is with
  | nil => intro vs l l' h; cases vs with
    | nil => rfl
    | cons _ _ => cases h
  | cons i is ih => intro vs l l' h; cases vs with
    | nil => cases h
    | cons v vs =>
      obtain ⟨_, h⟩ := if_some (show (if i < l.length then bindAll is vs (l.set i (some v)) else none) = some l' from h)
      exact congrArg Nat.succ (ih h)

theorem tg_all {b : Bool} (O : EnvOk env names) {A : Around} {E : Value → Shared → Prop} {es : List PySem.Expr} {is : List Nat} (t : TgNames b names es is) : ∀ {s : Shared} {am : AM} {loc loc' : Locs} {hp : Hp} {vs : List V} {vals : List Value} {T : Unit → Shared → Prop}, bindAll is vs loc = some loc' → RVs G.ws am s.heap vs vals → Rel G env names s am loc hp →
    (∀ s', Rel G env names s' am loc' hp → Aft (ownB env b) s.heap am s'.heap am → T () s') → wpAny (model G.prog G.w) A (assignInOrder ((assignEach es env).map (·.2)) vals) T E s := by
  induction t with
  | nil =>
    intro s am loc loc' hp vs vals T hb rv R h
    cases rv with
    | nil => cases hb; exact wpAny_pure (h s R (Aft.refl _ _ _))
    | cons _ _ => cases hb
  | cons h1 h2 t ih =>
    intro s am loc loc' hp vs vals T hb rv R h
    cases rv with
    | nil => cases hb
    | cons r1 r2 =>
      obtain ⟨_, hb⟩ := if_some hb
      change wpAny _ _ (assignInOrder (assign (.Name _ _) env :: (assignEach _ env).map (·.2)) _) _ _ _
      rw [assignInOrder]
      refine wpAny_bind (wpAny_holding (wpAny_assign_Name (store_own O R h1 h2 r1 fun s1 R1 a1 => ?_)))
      exact ih hb (a1.rvs r2) R1 fun s' R' a' => h s' R' (a1.trans a')

theorem bindT_tup {is : List Nat} {vs : List V} {l : Locs} (h : 2 ≤ is.length) : bindT is (.tup vs) l = bindAll is vs l := by
  unfold bindT
  split
  · simp at h
  · rename_i e; cases e; rfl
  · rename_i h1 h2; exact absurd rfl (h2 _)

theorem tgt_tuple {b : Bool} (O : EnvOk env names) {es : List PySem.Expr} {is : List Nat} {k : Nat} {p : Pos} (t : TgNames b names es is) (h2 : 2 ≤ is.length) : SndTgt G b env names (.Tuple es k p) is := fun A s am loc loc' hp v val T E hh hb rv R h => by
  have hb' : ∃ vs, v = .tup vs ∧ bindAll is vs loc = some loc' := by
    unfold bindT at hb
    split at hb
    · simp at h2
    · exact ⟨_, rfl, hb⟩
    · cases hb
  obtain ⟨vs, rfl, hb'⟩ := hb'
  cases rv with
  | tup i rs l =>
    have ln := rs.length
    have bl := bindAll_len hb'
    refine assign_Tuple_tuple hh i (by rw [(t.len (env := env)).1, List.size_toArray, ← ln, bl]) (t.len (env := env)).2 fun h' he => ?_
    have kp : ∀ b o, s.heap.get? b = some o → h'.get? b = some o := fun b o e => he b o (fun q => by rw [q, get_none_of_size] at e; cases e) e
    have R' : Rel G env names { s with heap := h' } am loc hp := R.step (s' := { s with heap := h' }) (Aft.ofKeep kp) (R.hr.keepAll kp) ⟨R.same.gens, R.same.os⟩
    have af : Aft (ownB env b) s.heap am h' am := Aft.ofKeep kp
    exact tg_all O t hb' (s := { s with heap := h' }) (af.rvs rs) R' fun s' R'' a' => h s' R'' (af.trans a')

theorem sndS_asgU (O : EnvOk env names) {e : PySem.Expr} {i : Mine.E} {es : List PySem.Expr} {is : List Nat} {k : Nat} {p pos : Pos} (t : TgNames false names es is) (h2 : 2 ≤ is.length) (hc : notComp e = true) (ht : notTuple e = true) (h1 : Snd G g C N env names r e i) :
    SndS G g C N env names r (.Assign [.Tuple es k p] e pos) (.asg (.unp is) i) := fun σ KN KR X A s am E h rm R => by
  dsimp only [wS_skip, wS_seq, wS_expr, wS_asg, wS_if_, wS_while_, wS_for_, wS_ret, wS_raise, wT_loc, wT_attr, wT_idx, wT_unp] at h
  refine Assign_Tuple (wpAny_mono (h1 σ.loc σ.hp _ X A s am h rm R) (fun v s1 z => ?_) fun _ _ z => z.no.elim) (swaps_plain hc (some (.Tuple es k p)) pos.line env) (by cases e <;> first | rfl | cases ht)
  obtain ⟨c, p1, am1, z1, z2, z3, z4, z5⟩ := z
  cases z2 with
  | tup i rs l =>
    rename_i xs _ _
    dsimp only at z1
    cases hb : bindAll is xs σ.loc with
    | none => rw [hb] at z1; exact z1.elim
    | some l' =>
      rw [hb, onSome_some] at z1
      exact tgt_tuple O t h2 A s1 am1 σ.loc l' p1 (.tup xs) _ _ _ rm.handled (by rw [bindT_tup h2]; exact hb) (.tup i rs l) (R.step z4 z3 z5) fun s' R' a' => ⟨l', p1, am1, z1, R', z4.weaken.trans a'⟩
  | _ => exact z1.elim
end
end Mine

end
noncomputable section
namespace Mine
open PySem PySem.W PyProof.Rows

section
variable {G : Glb} {g : Genv} {C N : Oracle} {env : Env} {names : List (Str × NameKind)} {r : Nat}

theorem Aft.muts_out {own : List Addr} {h h' : Heap} {am am' : AM} (a : Aft own h am h' am') {x : Addr} (hx : x ∉ am.muts) (hl : (h.get? x).isSome = true) : x ∉ am'.muts := by
  obtain ⟨l, rfl, f⟩ := a.ext
  simp only [AM.muts, List.map_append, List.mem_append, not_or]
  refine ⟨hx, fun q => ?_⟩
  obtain ⟨p, hp, rfl⟩ := List.mem_map.mp q
  rw [(f p hp).2] at hl; cases hl
theorem IterP.after {it : Addr} {grd : Hp → Prop} {P : List V → Heap → AM → Prop} (ip : IterP G it grd P) {xs : List V} {h h' : Heap} {am am' : AM} (p : P xs h am) {own : List Addr} (a : Aft own h am h' am') (h1 : it ∉ own) (h2 : it ∉ am.muts) : P xs h' am' := by
  obtain ⟨o, ho, _⟩ := ip.live _ _ _ p
  exact ip.keep _ _ _ _ _ p ((a.keep it o ho h1 h2).trans ho.symm) a.tup a.map

theorem for_run {A : Around} {X : Nat → Hp → Prop} {target : PySem.Expr} {body : List Stmt} {is : List Nat} {ib : Mine.S} {a : Addr} {grd : Hp → Prop} {P : List V → Heap → AM → Prop} {KN : St → Prop} {KR : V → Hp → Prop} {s0 : Shared} {am0 : AM} {Er : Value → Shared → Prop}
    (ip : IterP G a grd P) (ht : SndTgt G false env names target is) (hb : SndSs G g C N env names r body ib) (rm : Room X A r) (hao : a ∉ ownA env) (hab : G.base.get? a = none) (ha0 : s0.heap.get? a = none) :
    ∀ (xs : List V) (σ : St) (s : Shared) (am : AM), forWp grd (fun x σ K => onSome (bindT is x σ.loc) fun l => wpS g C N ib ⟨l, σ.hp⟩ K KR X) xs σ KN → P xs s.heap am → Rel G env names s am σ.loc σ.hp → a ∉ am.muts → Aft (ownA env) s0.heap am0 s.heap am →
      codeAny (model G.prog G.w) A (.forLoop target (.ref a) body [] env) (fun res s' => match res with | .ok f => SP G env names s0 am0 KN KR f s' | .error e => Er e s') s := by
  intro xs
  induction xs with
  | nil =>
    intro σ s am h p R hm af
    obtain ⟨gd, kn⟩ := h
    obtain ⟨o, ho, h1, h2⟩ := ip.live _ _ _ p
    refine for_unroll (ip.fin A s am σ.hp _ _ rm.handled p R.hr gd fun h' k => ?_)
    obtain ⟨hr', tk⟩ := R.hr.keepBut k ho h1 h2 hm hab
    exact ⟨σ.loc, σ.hp, am, kn, R.keepBut (tk := s.toks) k hr' tk hao, af.transBut k ha0 tk⟩
  | cons x xs ih =>
    intro σ s am h p R hm af
    obtain ⟨gd, st⟩ := h
    obtain ⟨o, ho, h1, h2⟩ := ip.live _ _ _ p
    refine for_unroll (ip.next A s am σ.hp x xs _ _ p R.hr gd fun h' tk val rv p' k => ?_)
    obtain ⟨hr', tkp⟩ := R.hr.keepBut k ho h1 h2 hm hab
    have R1 := R.keepBut (tk := tk) k hr' tkp hao
    have af1 := af.transBut k ha0 tkp
    obtain ⟨o', ho', h1', h2'⟩ := ip.live _ _ _ p'
    refine ip.goes A { s with heap := h', toks := tk } am xs target val _ _ p' fun h'' p'' k'' => ?_
    obtain ⟨hr'', tkp''⟩ := hr'.keepBut k'' ho' h1' h2' hm hab
    have R2 := R1.keepBut (tk := tk) k'' hr'' tkp'' hao
    have af2 := af1.transBut k'' ha0 tkp''
    cases hbt : bindT is x σ.loc with
    | none => rw [hbt] at st; exact st.elim
    | some l =>
      rw [hbt, onSome_some] at st
      refine ht A _ am σ.loc l σ.hp x val _ _ rm.handled hbt (rv.mono tkp'' fun _ _ e => e) R2 fun s3 R3 a3 => ?_
      have lv3 : (h''.get? a).isSome = true := by obtain ⟨o, ho, _⟩ := ip.live _ _ _ p''; rw [ho]; rfl
      have p3 := ip.after p'' a3 hao hm
      have hm3 := a3.muts_out hm lv3
      refine wpAny_mono (hb ⟨l, σ.hp⟩ _ KR X A s3 am _ st rm R3) (fun fl s4 z => ?_) fun _ _ z => z
      cases fl with
      | next =>
        obtain ⟨l4, hp4, am4, z1, z2, z3⟩ := z
        have lv4 : (s3.heap.get? a).isSome = true := by obtain ⟨o, ho, _⟩ := ip.live _ _ _ p3; rw [ho]; rfl
        exact ih ⟨l4, hp4⟩ s4 am4 z1 (ip.after p3 z3 hao hm3) z2 (z3.muts_out hm3 lv4) ((af2.trans a3).trans z3)
      | ret v => exact SP.back (fl := .ret v) (af2.trans a3) z
      | brk => exact z.elim
      | cont => exact z.elim

theorem sndS_for {target iter : PySem.Expr} {body : List Stmt} {k : ItK} {is : List Nat} {i : Mine.E} {ib : Mine.S} {pos : Pos} (hf : foldedPlain iter = true) (hi : SndIt G g C N env names r iter k i) (ht : SndTgt G false env names target is) (hb : SndSs G g C N env names r body ib) :
    SndS G g C N env names r (.For target iter body [] pos) (.for_ is k i ib) := fun σ KN KR X A s am E h rm R => by
  dsimp only [wS_skip, wS_seq, wS_expr, wS_asg, wS_if_, wS_while_, wS_for_, wS_ret, wS_raise] at h
  refine wpAny_For (wpAny_mono (hi σ.loc σ.hp (fun xs grd h => forWp grd (fun x σ K => onSome (bindT is x σ.loc) fun l => wpS g C N ib ⟨l, σ.hp⟩ K KR X) xs ⟨σ.loc, h⟩ KN) X A s am E h rm R) (fun x s1 z => wpAny_mono z (fun it s2 y => ?_) fun _ _ y => y) fun _ _ z => z) (folded_plain hf _)
  obtain ⟨a, xs, grd, P, hp', am', rfl, y1, ip, y2, y3, y4, y5, y6, y7, y8⟩ := y
  have hao : a ∉ ownA env := fun q => by
    have : (s.heap.get? a).isSome = true := by
      simp only [ownA, List.mem_cons, List.mem_map] at q
      rcases q with e | ⟨c, hc, e⟩
      · obtain ⟨m, F, _⟩ := R.fr
        obtain ⟨o, es, ep, ho, _⟩ := F.ns; rw [e, ho]; rfl
      · rw [← e]; exact (R.apartL c hc).2
    rw [y5] at this; cases this
  exact for_run ip ht hb rm hao y7 y5 xs ⟨σ.loc, hp'⟩ s2 am' y1 y2 (R.step y4 y3 y8) y6 y4.weaken

theorem sndS_while {test : PySem.Expr} {body : List Stmt} {ic : Mine.E} {ib : Mine.S} {pos : Pos} (h1 : SndT G g C N env names r test ic) (h2 : SndSs G g C N env names r body ib) : SndS G g C N env names r (.While test body [] pos) (.while_ ic ib) := fun σ KN KR X A s am E h rm R => by
  dsimp only [wS_skip, wS_seq, wS_expr, wS_asg, wS_if_, wS_while_, wS_for_, wS_ret, wS_raise] at h
  refine wpAny_While ?_
  have key : ∀ (s1 : Shared) (am1 : AM), Rel G env names s1 am1 σ.loc σ.hp → Aft (ownA env) s.heap am s1.heap am1 → codeAny (model G.prog G.w) A (.whileLoop test body [] env) (fun res s' => match res with | .ok f => SP G env names s am KN KR f s' | .error e => cameBackBy (model G.prog G.w) A env E e s') s1 := by
    refine h (fun σ => ∀ (s1 : Shared) (am1 : AM), Rel G env names s1 am1 σ.loc σ.hp → Aft (ownA env) s.heap am s1.heap am1 → codeAny (model G.prog G.w) A (.whileLoop test body [] env) (fun res s' => match res with | .ok f => SP G env names s am KN KR f s' | .error e => cameBackBy (model G.prog G.w) A env E e s') s1) fun σ1 hw s1 am1 R1 a1 => ?_
    refine while_unroll (M := model G.prog G.w) (wpAny_mono (h1 σ1.loc σ1.hp (fun b h => match b with | true => wpS g C N ib ⟨σ1.loc, h⟩ _ KR X | false => KN ⟨σ1.loc, h⟩) X A s1 am1 _ hw rm R1 rfl) (fun b s2 z => ?_) fun _ _ z => z.no)
    obtain ⟨p1, am2, z1, z3, z4, z5⟩ := z
    have R2 := R1.step z4 z3 z5
    have a2 : Aft (ownA env) s.heap am s2.heap am2 := a1.trans z4.weaken
    cases b with
    | false => exact ⟨σ1.loc, p1, am2, z1, R2, a2⟩
    | true =>
      refine wpAny_mono (h2 ⟨σ1.loc, p1⟩ _ KR X A s2 am2 _ z1 rm R2) (fun fl s3 y => ?_) fun _ _ y => y
      cases fl with
      | next =>
        obtain ⟨l, hp, am3, y1, y2, y3⟩ := y
        exact y1 s3 am3 y2 (a2.trans y3)
      | ret v => exact SP.back (fl := .ret v) a2 y
      | brk => exact y.elim
      | cont => exact y.elim
  exact key s am R (Aft.refl _ _ _)
end
end Mine

end
noncomputable section
namespace Mine
open PySem PySem.W PyProof.Rows

noncomputable def plainPs (p : Arguments) : Option (List Str) := match p with
  | ⟨[], as, none, [], [], none, []⟩ => some (as.map (·.arg))
  | _ => none

theorem lookup_zip_some {ps : List Str} : ∀ {vals : List Value}, vals.length = ps.length → ∀ x ∈ ps, ((ps.zip vals).lookup x).isSome = true := by
  induction ps with
  | nil => intro _ _ x hx; cases hx
  | cons p ps ih =>
    intro vals hl x hx
    cases vals with
    | nil => cases hl
    | cons v vs =>
      simp only [List.zip_cons_cons, List.lookup_cons]
      cases hb : x == p with
      | true => rfl
      | false =>
        rcases List.mem_cons.mp hx with e | e
        · rw [e, beq_self_eq_true] at hb; cases hb
        · exact ih (by simpa using hl) x e

theorem filterMap_same {α β : Type} {f g : α → Option β} : ∀ {l : List α}, (∀ x ∈ l, f x = g x) → l.filterMap f = l.filterMap g
  | [], _ => rfl
  | a :: l, h => by rw [List.filterMap_cons, List.filterMap_cons, h a (.head _), filterMap_same fun x hx => h x (.tail _ hx)]
theorem filterMap_zip {ps : List Str} : ∀ {vals : List Value}, vals.length = ps.length → ps.Nodup → (ps.filterMap fun n => ((ps.zip vals).lookup n).map (n, ·)) = ps.zip vals := by
  induction ps with
  | nil => intro vals _ _; rfl
  | cons p ps ih =>
    intro vals hl hn
    cases vals with
    | nil => cases hl
    | cons v vs =>
      rw [List.nodup_cons] at hn
      simp only [List.zip_cons_cons, List.filterMap_cons, List.lookup_cons, beq_self_eq_true, Option.map_some]
      congr 1
      refine Eq.trans (filterMap_same fun x hx => ?_) (ih (by simpa using hl) hn.2)
      have : (x == p) = false := by
        cases hb : x == p with
        | false => rfl
        | true => rw [beq_iff_eq] at hb; subst hb; exact absurd hx hn.1
      rw [this]

theorem sem_pb {α β : Type} (a : α) (f : α → Sem β) : (pure a >>= f) = f a := rfl
theorem seqItems_none : seqItems? .none = pure none := rfl
theorem bindArgs_plain {fd : FuncData} {ps : List Str} {vals : List Value} (hp : plainPs fd.params = some ps) (hd : fd.defaults = .none) (hl : vals.length = ps.length) (hn : ps.Nodup) :
    bindArgs fd ⟨vals, []⟩ = pure (ps.zip vals) := by
  unfold plainPs at hp
  split at hp
  · rename_i as e
    cases hp
    unfold bindArgs
    rw [e, hd]
    simp only [List.map_nil, List.nil_append, List.forIn_nil, List.append_nil]
    have h1 : decide (vals.length > (as.map (·.arg)).length) = false := decide_eq_false (by (first | lia | omega))
    have h2 : ((as.map (·.arg)).filter fun n => (((as.map (·.arg)).zip vals).lookup n).isNone) = [] := List.filter_eq_nil_iff.mpr fun x hx => by
      have := lookup_zip_some hl x hx
      cases q : ((as.map (·.arg)).zip vals).lookup x with
      | none => rw [q] at this; cases this
      | some v => simp
    have h3 := filterMap_zip hl hn
    generalize as.map (·.arg) = ps at *
    simp only [sem_pb, seqItems_none, h1, Bool.false_and, Option.getD_none, List.length_nil, List.drop_nil, Nat.sub_zero, Nat.zero_sub, List.take_length, h2, List.isEmpty_nil, Bool.not_true, List.zip_nil_right, List.forIn_nil, h3]
    rfl
  · cases hp
end Mine

end
noncomputable section
namespace Mine
open PySem PySem.W PyProof.Rows

theorem bindL_out {kf : Str → Option NameKind} {x : Str} : ∀ {l : List (Str × Value)} {m : Str → Option Value}, x ∉ l.map (·.1) → bindL kf l m x = m x
  | [], _, _ => rfl
  | (n, v) :: r, m, h => by
    simp only [List.map_cons, List.mem_cons, not_or] at h
    unfold bindL
    rw [bindL_out h.2]
    split
    · simp [h.1]
    · rfl
theorem bindC_out {kf : Str → Option NameKind} {x : Str} : ∀ {l : List (Str × Value)} {m : Str → Option Value}, x ∉ l.map (·.1) → bindC kf l m x = m x
  | [], _, _ => rfl
  | (n, v) :: r, m, h => by
    simp only [List.map_cons, List.mem_cons, not_or] at h
    unfold bindC
    rw [bindC_out h.2]
    split
    · rfl
    · simp [h.1]
theorem bindL_in {kf : Str → Option NameKind} {x : Str} {v : Value} (hk : kf x = some .local) : ∀ {l : List (Str × Value)} {m : Str → Option Value}, (l.map (·.1)).Nodup → (x, v) ∈ l → bindL kf l m x = some v
  | (n, u) :: r, m, hn, h => by
    simp only [List.map_cons, List.nodup_cons] at hn
    unfold bindL
    rcases List.mem_cons.mp h with e | e
    · cases e
      rw [bindL_out hn.1, if_pos hk]; simp
    · exact bindL_in hk hn.2 e
theorem bindC_in {kf : Str → Option NameKind} {x : Str} {v : Value} (hk : kf x = some .cell) : ∀ {l : List (Str × Value)} {m : Str → Option Value}, (l.map (·.1)).Nodup → (x, v) ∈ l → bindC kf l m x = some v
  | (n, u) :: r, m, hn, h => by
    simp only [List.map_cons, List.nodup_cons] at hn
    unfold bindC
    rcases List.mem_cons.mp h with e | e
    · cases e
      rw [bindC_out hn.1, if_neg (by rw [hk]; decide)]; simp
    · exact bindC_in hk hn.2 e

theorem cellsFrom_names : ∀ (names : List (Str × NameKind)) (n : Nat) (acc : List (Str × Addr)), (cellsFrom n names acc).map (·.1) = (((names.filter fun p => p.2 == .cell).map (·.1)).reverse ++ acc.map (·.1))
  | [], n, acc => rfl
  | (x, k) :: r, n, acc => by
    unfold cellsFrom
    by_cases h : (k == .cell) = true
    · rw [if_pos h, cellsFrom_names r]
      simp [h]
    · rw [if_neg h, cellsFrom_names r]
      simp [h]
theorem lookup_of_mem {α : Type} : ∀ {l : List (Str × α)} {x : Str} {v : α}, (l.map (·.1)).Nodup → (x, v) ∈ l → l.lookup x = some v
  | (n, u) :: r, x, v, hn, h => by
    simp only [List.map_cons, List.nodup_cons] at hn
    rw [List.lookup_cons]
    rcases List.mem_cons.mp h with e | e
    · cases e; simp
    · have : (x == n) = false := by
        cases hb : x == n with
        | false => rfl
        | true => rw [beq_iff_eq] at hb; subst hb; exact absurd (List.mem_map_of_mem (f := (·.1)) e) hn.1
      rw [this]; exact lookup_of_mem hn.2 e

noncomputable def kindL (k : NameKind) : Bool := k == .local || k == .cell || k == .free

noncomputable def slotsOf (ps : List Str) (sc : Scope) : List (Str × NameKind) := ps.map (fun x => (x, (sc.names.lookup x).getD .local)) ++ sc.names.filter (fun p => kindL p.2 && !ps.contains p.1)
noncomputable def slotsOk (names : List (Str × NameKind)) (sc : Scope) : Bool := (names.all fun p => sc.names.lookup p.1 == some p.2 && kindL p.2 && !(p.1 == ("__debug__" : Str)) && !(p.1 == ("__classdict__" : Str))) && decide (names.map (·.1)).Nodup
noncomputable def paramsOk (ps : List Str) (names : List (Str × NameKind)) (sc : Scope) : Bool := ((names.take ps.length).map (·.1) == ps) && ((names.take ps.length).all fun p => p.2 == .local || p.2 == .cell) && decide ((sc.names.filter fun p => p.2 == .cell).map (·.1)).Nodup
  && sc.kind == .function && !sc.isCoroutine && !sc.isGenerator && (names.all fun p => !(p.2 == .free))

theorem envOk_of {env : Env} {names : List (Str × NameKind)} (h : slotsOk names env.scope = true) (hk : env.scope.kind = .function) (hg : env.globals = mainGlobals) (hb : env.builtins = builtinsNs) : EnvOk env names := by
  simp only [slotsOk, Bool.and_eq_true, List.all_eq_true, decide_eq_true_eq] at h
  refine ⟨hk, hg, hb, fun i x k e => ?_, h.2⟩
  have q := h.1 _ (List.mem_of_getElem? e)
  simp only [beq_iff_eq, kindL, Bool.or_eq_true, Bool.not_eq_true'] at q
  refine ⟨q.1.1.1, ?_, q.1.2, q.2⟩
  rcases q.1.1.2 with (z | z) | z <;> simp [z]

section
variable {G : Glb} {g : Genv} {C N : Oracle} {r : Nat}

theorem call_entry (GK : GG G g) {f : Nat} {a : Addr} {fn : Fn} {name qual : Str} {params : Arguments} {body : List Stmt} {scope : Scope} {kV doc pm cdv ct oc : Value} {an od : Option Addr} {osl : Array (Option Value)} {ps : List Str} {names : List (Str × NameKind)}
    (ho : G.K.lookup a = some ⟨oc, od, .func (fnOf name qual params body scope .none kV doc pm an cdv ct), osl⟩) (hcd : codeIn G.K cdv qual = true) (hpp : plainPs params = some ps) (hs : slotsOk names scope = true) (hpo : paramsOk ps names scope = true)
    (hf : g.fn f = some fn) (hnp : fn.np = ps.length) (hn : fn.n = names.length) (hb : ∀ env, EnvOk env names → env.scope = scope → SndSs G g C N env names r body fn.body)
    {vs : List V} {hp : Hp} {Q : V → Hp → Prop} {X : Nat → Hp → Prop} {A : Around} {s : Shared} {am : AM} {vals : List Value} (hC : stepC g C N f vs hp Q X) (rm : RoomC X A (r + 1)) (sz : G.base.objs.size ≤ s.heap.objs.size) (hr : HR G am s.heap hp) (sm : Same G s) (rv : RVs G.ws am s.heap vs vals) :
    codeAny (model G.prog G.w) A (.call (.ref a) ⟨vals, []⟩) (fun res s' => match res with | .ok (.ret val) => EvP G s am Q val s' | .ok _ => False | .error e => XP G [] s am X e s') s := by
  unfold stepC at hC
  rw [hf, onSome_some] at hC
  obtain ⟨c1, c2, c3⟩ := hC
  have hvl : vals.length = ps.length := by rw [← rv.length, c1, hnp]
  simp only [paramsOk, Bool.and_eq_true, Bool.not_eq_true', decide_eq_true_eq, beq_iff_eq, List.all_eq_true, Bool.or_eq_true] at hpo
  obtain ⟨⟨⟨⟨⟨⟨p1, p2⟩, p3⟩, p4⟩, p5⟩, p6⟩, p7⟩ := hpo
  have hso := hs
  simp only [slotsOk, Bool.and_eq_true, List.all_eq_true, decide_eq_true_eq] at hso
  obtain ⟨s1, s2⟩ := hso
  have pn : ps.Nodup := by rw [← p1, List.map_take]; exact s2.sublist (List.take_sublist _ _)
  have plen : ps.length ≤ names.length := by rw [← hnp, ← hn]; exact c2
  have nm : ∀ (i : Nat) (x : Str), ps[i]? = some x → ∃ k, names[i]? = some (x, k) ∧ (k = .local ∨ k = .cell) ∧ scope.names.lookup x = some k := fun i x e => by
    have il : i < ps.length := by obtain ⟨q, _⟩ := List.getElem?_eq_some_iff.mp e; exact q
    have e2 : ((names.take ps.length).map (·.1))[i]? = some x := by rw [p1]; exact e
    rw [List.getElem?_map] at e2
    cases e3 : (names.take ps.length)[i]? with
    | none => rw [e3] at e2; cases e2
    | some p =>
      rw [e3] at e2
      have e4 : p.1 = x := by simpa using e2
      have mem := List.mem_of_getElem? e3
      have kk := p2 p mem
      rw [List.getElem?_take_of_lt il] at e3
      have q := s1 p (List.mem_of_getElem? e3)
      simp only [beq_iff_eq] at q
      exact ⟨p.2, by rw [e3, ← e4], kk, by rw [← e4]; exact q.1.1.1⟩
  have zn : ((ps.zip vals).map (·.1)) = ps := by rw [List.map_fst_zip]; (first | lia | omega)
  have ofIn : ∀ y ∈ ps.zip vals, ∃ k, (k = .local ∨ k = .cell) ∧ scope.names.lookup y.1 = some k := fun y hy => by
    have : y.1 ∈ ps := by rw [← zn]; exact List.mem_map_of_mem hy
    obtain ⟨i, hi⟩ := List.mem_iff_getElem?.mp this
    obtain ⟨k, _, h2, h3⟩ := nm i _ hi
    exact ⟨k, h2, h3⟩
  refine codeAny_call_cells (fd := fnOf name qual params body scope .none kV doc pm an cdv ct) (binds := ps.zip vals) (by have := rm.depth; (first | lia | omega)) (hr.base _ _ (GK.ok.x _ _ ho)) rfl (GK.ok.nolimit.keeps hr.base) (codeRec_of (GK.ok.x.keeps hr.base) hcd) rfl (bindArgs_plain hpp rfl hvl pn) rfl ?_ ?_ p5 p6 p4
  · intro y hy
    obtain ⟨k, hk, e⟩ := ofIn y hy
    rcases hk with rfl | rfl
    · exact .inl e
    · exact .inr ⟨e, cellsFrom_some _ _ _ (.inl e)⟩
  · intro s₁ IC
    have O : EnvOk (callEnvC (fnOf name qual params body scope .none kV doc pm an cdv ct) s.heap.objs.size a) names := envOk_of hs p4 rfl rfl
    generalize henv : callEnvC (fnOf name qual params body scope .none kV doc pm an cdv ct) s.heap.objs.size a = env at *
    have hL : env.locals = s.heap.objs.size := by rw [← henv]; rfl
    have hsc : env.scope = scope := by rw [← henv]; rfl
    have hkf : ∀ x, env.kindOf x = scope.names.lookup x := fun x => by unfold Env.kindOf; rw [hsc]
    have hcs : env.cells = cellsFrom (s.heap.objs.size + 1) scope.names [] := by rw [← henv]; rfl
    have cn : (env.cells.map (·.1)).Nodup := by
      rw [hcs, cellsFrom_names]
      simp only [List.map_nil, List.append_nil]
      exact List.pairwise_reverse.mpr (p3.imp fun h => h.symm)
    have kp := IC.toInCall.keep
    have hr1 : HR G am s₁.heap hp := hr.keepAll kp
    have sm1 : Same G s₁ := by obtain ⟨h', tk, e⟩ := IC.toInCall.same; subst e; exact ⟨sm.gens, sm.os⟩
    have fresh : ∀ b, s.heap.objs.size ≤ b → s.heap.get? b = none := fun b hb => by
      cases z : s.heap.get? b with
      | none => rfl
      | some o => exact absurd (Heap.lt_size z) (Nat.not_lt.mpr hb)
    have ownF : ∀ b ∈ ownA env, s.heap.get? b = none := fun b hb => by
      simp only [ownA, List.mem_cons, List.mem_map] at hb
      rcases hb with e | ⟨c, hc, e⟩
      · exact fresh b (by rw [e, hL]; exact Nat.le_refl _)
      · have := IC.above c.1 c.2 hc
        exact fresh b (by rw [← e]; rw [hL] at this; exact Nat.le_of_lt this)
    have R1 : Rel G env names s₁ am (vs.map some ++ List.replicate (fn.n - fn.np) none) hp := by
      refine ⟨hr1, ⟨_, ⟨IC.toInCall.ns, hr1.base, by rw [hL]; exact sz⟩, ?_⟩, ?_, ?_, IC.apart, ?_, ?_, sm1⟩
      · intro i v e
        unfold Mine.getL at e
        have il : i < vs.length := by
          by_cases q : i < vs.length
          · exact q
          · rw [List.getElem?_append_right (by simp; (first | lia | omega))] at e
            simp only [List.length_map] at e
            rw [List.getElem?_replicate] at e
            split at e
            · rename_i q2; split at q2 <;> cases q2
            · cases e
        rw [List.getElem?_append_left (by simpa using il), List.getElem?_map] at e
        cases hv : vs[i]? with
        | none => rw [hv] at e; cases e
        | some u =>
          rw [hv] at e
          cases e
          obtain ⟨val, v1, v2⟩ := rv.get hv
          have ip : i < ps.length := by (first | lia | omega)
          have hpi : ps[i]? = some ps[i] := List.getElem?_eq_getElem ip
          obtain ⟨k, n1, n2, n3⟩ := nm i _ hpi
          have mem : (ps[i], val) ∈ ps.zip vals := List.mem_iff_getElem?.mpr ⟨i, by rw [List.getElem?_zip_eq_some]; exact ⟨hpi, v1⟩⟩
          have zn' : ((ps.zip vals).map (·.1)).Nodup := by rw [zn]; exact pn
          refine ⟨ps[i], k, val, n1, v2.mono (fun _ _ t => t.keeps kp) (fun _ _ e => e), ?_⟩
          rcases n2 with rfl | rfl <;> simp only [BindAt]
          · exact bindL_in (by rw [hkf]; exact n3) zn' mem
          · have := cellsFrom_some scope.names (s.heap.objs.size + 1) [] (.inl n3)
            rw [← hcs] at this
            obtain ⟨c, hc⟩ := Option.isSome_iff_exists.mp this
            refine ⟨c, hc, ?_⟩
            have := IC.cell _ _ hc
            rwa [bindC_in (by rw [hkf]; exact n3) zn' mem] at this
      · intro b hb
        have z := ownF b hb
        refine ⟨fun q => ?_, ?_⟩
        · obtain ⟨p, hp1, e⟩ := List.mem_map.mp q
          obtain ⟨_, o, ho2, _⟩ := hr.live hp1
          rw [e, z] at ho2; cases ho2
        · cases q : G.base.get? b with
          | none => rfl
          | some o => rw [hr.base _ _ q] at z; cases z
      · intro x hx
        have q := s1 _ hx
        simp only [beq_iff_eq] at q
        have := cellsFrom_some scope.names (s.heap.objs.size + 1) [] (.inl q.1.1.1)
        rw [← hcs] at this
        obtain ⟨c, hc⟩ := Option.isSome_iff_exists.mp this
        exact ⟨c, _, hc, IC.cell _ _ hc⟩
      · intro c hc
        have l := lookup_of_mem cn hc
        obtain ⟨o, ho2, _⟩ := IC.cell _ _ l
        exact ⟨Nat.ne_of_gt (IC.above _ _ hc), by rw [ho2]; rfl⟩
      · simp only [List.length_append, List.length_map, List.length_replicate]
        (first | lia | omega)
    obtain ⟨l, hl⟩ := rm.some_
    have rm1 : Room X (A.deeper env) r := ⟨by show A.depth + 1 + r + 101 ≤ _; have := rm.depth; (first | lia | omega), by show A.units + 3 + 10 * r + 300 ≤ _; have := rm.units; (first | lia | omega), rm.handled,
      ⟨env, l, by show A.frames.map _ = _; rw [hl]; rfl, by rw [hsc]; exact p6, by rw [hsc]; exact p5, O.bi, O.glob⟩, rm.noX⟩
    have af0 : Aft [] s.heap am s₁.heap am := Aft.ofKeep kp
    have drop : ∀ {am' : AM} {s' : Shared}, Aft (ownA env) s₁.heap am s'.heap am' → Aft [] s.heap am s'.heap am' := fun {am' s'} x => by
      obtain ⟨l, e, f2⟩ := x.ext
      refine ⟨fun b o e n1 n2 => x.keep b o (kp b o e) (fun q => ?_) n2, fun b i t => x.tup b i (t.keeps kp), ⟨l, e, fun p hp1 => ?_⟩, fun b e => x.live b (by
        cases z : s.heap.get? b with
        | none => rw [z] at e; cases e
        | some o => rw [kp b o z]; rfl)⟩
      · rw [ownF b q] at e; cases e
      · have z := f2 p hp1
        refine ⟨?_, ?_⟩
        · cases q : s.heap.get? p.1 with
          | none => rfl
          | some o => rw [kp _ _ q] at z; cases z.1
        · cases q : s.heap.get? p.2 with
          | none => rfl
          | some o => rw [kp _ _ q] at z; cases z.2
    refine wpAny_mono (hb env O hsc ⟨_, hp⟩ (fun σ => Q .none σ.hp) Q X (A.deeper env) s₁ am (fun _ _ => False) c3 rm1 R1) (fun fl s' z => ?_) fun _ _ z => z.elim
    cases fl with
    | next =>
      obtain ⟨l', hp', am', z1, z2, z3⟩ := z
      exact ⟨.none, hp', am', z1, .none, z2.hr, drop z3, z2.same⟩
    | ret v =>
      obtain ⟨u, hp', am', z1, z2, z3, z4, z5⟩ := z
      exact ⟨u, hp', am', z1, z2, z3, drop z4, z5⟩
    | brk => exact z.elim
    | cont => exact z.elim
end
end Mine

end
noncomputable section
namespace Mine
open PySem PySem.W PyProof.Rows

section
variable {G : Glb} {g : Genv} {C N : Oracle} {env : Env} {names : List (Str × NameKind)} {r : Nat} {s : Shared} {A : Around}

theorem comp_unroll {elt target iter : PySem.Expr} {ifs : List PySem.Expr} {scope : Scope} {pos : Pos} {it acc : Value} {Rr : Result → Shared → Prop}
    (h : wpAny (model G.prog G.w) A (pyNext it) (fun rr s1 => match rr with
      | none => Rr (.ok .next) s1
      | some v => wpAny (model G.prog G.w) A (letOwnedTupleGo target it v) (fun _ s1' => wpAny (model G.prog G.w) A (assign target env v) (fun _ s2 =>
          wpAny (model G.prog G.w) A (forIn ifs true fun c r => if r = true then do let ok ← isTrue c env (eval c env); pure (ForInStep.yield ok) else pure (ForInStep.yield r)) (fun ok s3 =>
            if ok = true then wpAny (model G.prog G.w) A (eval elt env) (fun x s4 => wpAny (model G.prog G.w) A (call (.builtin "list.append") [acc, x]) (fun _ s5 => codeAny (model G.prog G.w) A (.compLoop (.ListComp elt [⟨target, iter, ifs, 0⟩] scope pos) 0 it acc env) Rr s5) (fun _ _ => False) s4) (fun _ _ => False) s3
            else codeAny (model G.prog G.w) A (.compLoop (.ListComp elt [⟨target, iter, ifs, 0⟩] scope pos) 0 it acc env) Rr s3) (fun _ _ => False) s2) (fun _ _ => False) s1') (fun _ _ => False) s1) (fun _ _ => False) s) :
    codeAny (model G.prog G.w) A (.compLoop (.ListComp elt [⟨target, iter, ifs, 0⟩] scope pos) 0 it acc env) Rr s := by
  refine codeAny_of_tree ?_
  rw [Around.under_of_weight (c := .compLoop (.ListComp elt [⟨target, iter, ifs, 0⟩] scope pos) 0 it acc env) rfl]
  show wpAny _ A ((compTurn (.ListComp elt [⟨target, iter, ifs, 0⟩] scope pos) 0 it acc env).onRaise (fun x => do noteFrame x env; theTreesLotGoes x)) _ _ s
  refine wpAny_onRaise ?_
  rw [compTurn_list]
  refine wpAny_bind (wpAny_standAt (wpAny_bind (wpAny_mono h (fun rr s1 h1 => ?_) fun _ _ x => x.elim)))
  cases rr with
  | none => exact wpAny_pure h1
  | some v =>
    refine wpAny_bind (wpAny_mono h1 (fun _ s1' h1' => ?_) fun _ _ x => x.elim)
    refine wpAny_bind (wpAny_mono h1' (fun _ s2 h2 => wpAny_bind (wpAny_mono h2 (fun ok s3 h3 => ?_) fun _ _ x => x.elim)) fun _ _ x => x.elim)
    cases ok with
    | false => exact wpAny_pure ⟨rfl, h3⟩
    | true => exact wpAny_bind (wpAny_bind (wpAny_mono h3 (fun x s4 h4 => wpAny_bind (wpAny_mono h4 (fun _ s5 h5 => wpAny_pure (wpAny_pure ⟨rfl, h5⟩)) fun _ _ h' => h'.elim)) fun _ _ h' => h'.elim))

inductive SndTs (G : Glb) (g : Genv) (C N : Oracle) (env : Env) (names : List (Str × NameKind)) (r : Nat) : List PySem.Expr → List Mine.E → Prop
  | nil : SndTs G g C N env names r [] []
  | cons {e : PySem.Expr} {i : Mine.E} {es : List PySem.Expr} {is : List Mine.E} : SndT G g C N env names r e i → SndTs G g C N env names r es is → SndTs G g C N env names r (e :: es) (i :: is)

theorem conds_false : ∀ (ifs : List PySem.Expr) {T : Bool → Shared → Prop} {E : Value → Shared → Prop} {s : Shared}, T false s → wpAny (model G.prog G.w) A (forIn ifs false fun c r => if r = true then do let ok ← isTrue c env (eval c env); pure (ForInStep.yield ok) else pure (ForInStep.yield r)) T E s
  | [], T, E, s, h => by rw [List.forIn_nil]; exact wpAny_pure h
  | c :: cs, T, E, s, h => by
    rw [List.forIn_cons]
    simp only [Bool.false_eq_true, if_false]
    exact wpAny_bind (wpAny_pure (conds_false cs h))
theorem conds_ok {X : Nat → Hp → Prop} {loc : Locs} (rm : Room X A r) {ifs : List PySem.Expr} {is : List Mine.E} (t : SndTs G g C N env names r ifs is) : ∀ {hp : Hp} {Q : Bool → Hp → Prop} {s : Shared} {am : AM}, wpC g C N loc is hp Q X → Rel G env names s am loc hp →
    wpAny (model G.prog G.w) A (forIn ifs true fun c r => if r = true then do let ok ← isTrue c env (eval c env); pure (ForInStep.yield ok) else pure (ForInStep.yield r)) (EvPb G s am Q) (fun _ _ => False) s := by
  induction t with
  | nil =>
    intro hp Q s am h R
    rw [List.forIn_nil]; exact wpAny_pure (evpb_here h R.hr rfl R.same)
  | cons h1 t ih =>
    intro hp Q s am h R
    rename_i e i es is
    rw [List.forIn_cons]
    simp only [if_true]
    dsimp only [wC_cons] at h
    refine wpAny_bind (wpAny_bind (wpAny_mono (h1 loc hp (fun b h1 => match b with | true => wpC g C N loc is h1 Q X | false => Q false h1) X A s am _ h rm R rfl) (fun b s1 z => wpAny_pure ?_) fun _ _ z => z.no))
    obtain ⟨p1, am1, z1, z3, z4, z5⟩ := z
    have R1 := R.step z4 z3 z5
    cases b with
    | true => exact wpAny_mono (ih z1 R1) (fun _ _ y => y.back z4) fun _ _ y => y
    | false => exact conds_false es ⟨p1, am1, z1, z3, z4, z5⟩

theorem Aft.transOwn {own : List Addr} {h h1 h2 : Heap} {am am1 am2 : AM} {c : Addr} (a : Aft own h am h1 am1) (b : Aft [c] h1 am1 h2 am2) (hn : h.get? c = none) : Aft own h am h2 am2 := by
  have a' : Aft (c :: own) h am h1 am1 := ⟨fun x o e n1 n2 => a.keep x o e (fun q => n1 (.tail _ q)) n2, a.tup, a.ext, a.live⟩
  have b' : Aft (c :: own) h1 am1 h2 am2 := ⟨fun x o e n1 n2 => b.keep x o e (fun q => n1 (by rw [List.mem_singleton.mp q]; exact .head _)) n2, b.tup, b.ext, b.live⟩
  have ab := a'.trans b'
  refine ⟨fun x o e n1 n2 => ab.keep x o e (fun q => ?_) n2, ab.tup, ab.ext, ab.live⟩
  rcases List.mem_cons.mp q with e' | e'
  · rw [e', hn] at e; cases e
  · exact n1 e'

structure AccAt (G : Glb) (D : Addr) (acc : List V) (h : Heap) (am : AM) : Prop where
  at_ : ∃ vs n, h.get? D = some (listObj vs n) ∧ RVs G.ws am h acc vs
  len : acc.length ≤ lim
  out : D ∉ am.muts

theorem AccAt.live {D : Addr} {acc : List V} {h : Heap} {am : AM} (x : AccAt G D acc h am) : (h.get? D).isSome = true := by obtain ⟨vs, n, h1, _⟩ := x.at_; rw [h1]; rfl
theorem AccAt.after {D : Addr} {acc : List V} {h h' : Heap} {am am' : AM} {own : List Addr} (x : AccAt G D acc h am) (a : Aft own h am h' am') (ho : D ∉ own) : AccAt G D acc h' am' := by
  obtain ⟨vs, n, h1, h2⟩ := x.at_
  exact ⟨⟨vs, n, a.keep D _ h1 ho x.out, a.rvs h2⟩, x.len, a.muts_out x.out x.live⟩
theorem AccAt.keepBut {D it : Addr} {acc : List V} {h h' : Heap} {am : AM} (x : AccAt G D acc h am) (k : KeepBut it h h') (hne : D ≠ it) (tk : TupKept h h') : AccAt G D acc h' am := by
  obtain ⟨vs, n, h1, h2⟩ := x.at_
  exact ⟨⟨vs, n, k D _ hne h1, h2.mono tk fun _ _ e => e⟩, x.len, x.out⟩

theorem comp_run {X : Nat → Hp → Prop} {elt target iter : PySem.Expr} {ifs : List PySem.Expr} {scope : Scope} {pos : Pos} {is : List Nat} {ie : Mine.E} {ics : List Mine.E} {a D : Addr} {grd : Hp → Prop} {P : List V → Heap → AM → Prop} {K : List V → Hp → Prop} {s0 : Shared} {am0 : AM}
    (ip : IterP G a grd P) (ht : SndTgt G true env names target is) (hc : SndTs G g C N env names r ifs ics) (he : Snd G g C N env names r elt ie) (rm : Room X A r) (hao : a ∉ ownA env) (hab : G.base.get? a = none) (ha0 : s0.heap.get? a = none)
    (hDo : D ∉ ownA env) (hDb : G.base.get? D = none) (hD0 : s0.heap.get? D = none) (hDa : D ≠ a) (hL0 : s0.heap.get? env.locals = none) :
    ∀ (xs : List V) (l : Locs) (acc : List V) (hp : Hp) (s : Shared) (am : AM), compWp grd (fun x l h2 K => onSome (bindT is x l) fun l1 => wpC g C N l1 ics h2 (fun b h3 => match b with
        | true => wpE g C N l1 ie h3 (fun y h4 => K l1 [y] h4) X
        | false => K l1 [] h3) X) xs l acc hp K → P xs s.heap am → Rel G env names s am l hp → a ∉ am.muts → AccAt G D acc s.heap am → Aft [] s0.heap am0 s.heap am →
      codeAny (model G.prog G.w) A (.compLoop (.ListComp elt [⟨target, iter, ifs, 0⟩] scope pos) 0 (.ref a) (.ref D) env) (fun res s' => match res with
        | .ok _ => ∃ acc' hp' am' l', K acc' hp' ∧ Rel G env names s' am' l' hp' ∧ AccAt G D acc' s'.heap am' ∧ Aft [] s0.heap am0 s'.heap am'
        | .error _ => False) s := by
  have hDL : D ≠ env.locals := fun q => hDo (by rw [q]; simp [ownA])
  intro xs
  induction xs with
  | nil =>
    intro l acc hp s am h p R hm ac af
    obtain ⟨gd, kn⟩ := h
    obtain ⟨o, ho, h1, h2⟩ := ip.live _ _ _ p
    refine comp_unroll (ip.fin A s am hp _ _ rm.handled p R.hr gd fun h' k => ?_)
    obtain ⟨hr', tk⟩ := R.hr.keepBut k ho h1 h2 hm hab
    exact ⟨acc, hp, am, l, kn, R.keepBut (tk := s.toks) k hr' tk hao, ac.keepBut k hDa tk, af.transBut k ha0 tk⟩
  | cons x xs ih =>
    intro l acc hp s am h p R hm ac af
    obtain ⟨gd, st⟩ := h
    obtain ⟨o, ho, h1, h2⟩ := ip.live _ _ _ p
    refine comp_unroll (ip.next A s am hp x xs _ _ p R.hr gd fun h' tk val rv p' k => ?_)
    obtain ⟨hr', tkp⟩ := R.hr.keepBut k ho h1 h2 hm hab
    have R1 := R.keepBut (tk := tk) k hr' tkp hao
    have af1 := af.transBut k ha0 tkp
    have ac1 := ac.keepBut k hDa tkp
    obtain ⟨o', ho', h1', h2'⟩ := ip.live _ _ _ p'
    refine ip.goes A { s with heap := h', toks := tk } am xs target val _ _ p' fun h'' p'' k'' => ?_
    obtain ⟨hr'', tkp''⟩ := hr'.keepBut k'' ho' h1' h2' hm hab
    have R2 := R1.keepBut (tk := tk) k'' hr'' tkp'' hao
    have af2 := af1.transBut k'' ha0 tkp''
    have ac2 := ac1.keepBut k'' hDa tkp''
    cases hbt : bindT is x l with
    | none => rw [hbt] at st; exact st.elim
    | some l1 =>
      rw [hbt, onSome_some] at st
      refine ht A _ am l l1 hp x val _ _ rm.handled hbt (rv.mono tkp'' fun _ _ e => e) R2 fun s3 R3 a3 => ?_
      have lv3 : (h''.get? a).isSome = true := by obtain ⟨o, ho, _⟩ := ip.live _ _ _ p''; rw [ho]; rfl
      have hal : a ∉ ownB env true := fun q => hao (by rw [List.mem_singleton.mp q]; simp [ownA])
      have p3 := ip.after p'' a3 hal hm
      have hm3 := a3.muts_out hm lv3
      have af3 := af2.transOwn a3 hL0
      have ac3 := ac2.after a3 (by simpa [ownB] using hDL)
      refine wpAny_mono (conds_ok rm hc st R3) (fun ok s4 z => ?_) fun _ _ z => z
      obtain ⟨hp4, am4, z1, z3, z4, z5⟩ := z
      have R4 := R3.step z4 z3 z5
      have lv4 : (s3.heap.get? a).isSome = true := by obtain ⟨o, ho, _⟩ := ip.live _ _ _ p3; rw [ho]; rfl
      have p4 := ip.after p3 z4 (by simp) hm3
      have hm4 := z4.muts_out hm3 lv4
      have af4 := af3.trans z4
      have ac4 := ac3.after z4 (by simp)
      cases ok with
      | false =>
        simp only [Bool.false_eq_true, if_false]
        simp only [List.append_nil] at z1
        exact ih l1 acc hp4 s4 am4 z1.2 p4 R4 hm4 ac4 af4
      | true =>
        simp only [if_true]
        refine wpAny_mono (he l1 hp4 _ X A s4 am4 z1 rm R4) (fun y s5 w => ?_) fun _ _ w => w.no
        obtain ⟨v, hp5, am5, ⟨w0, w1⟩, w2, w3, w4, w5⟩ := w
        have R5 := R4.step w4 w3 w5
        have lv5 : (s4.heap.get? a).isSome = true := by obtain ⟨o, ho, _⟩ := ip.live _ _ _ p4; rw [ho]; rfl
        have p5 := ip.after p4 w4 (by simp) hm4
        have hm5 := w4.muts_out hm4 lv5
        have af5 := af4.trans w4
        have ac5 := ac4.after w4 (by simp)
        obtain ⟨vs, n, d1, d2⟩ := ac5.at_
        have ln := d2.length
        refine wpAny_list_append_plain ⟨n, d1⟩ (fun h6 hl6 hs6 => ?_) (by have := ac5.len; rw [List.size_toArray, ← ln, sizeLine]; simp only [lim] at this; (first | lia | omega))
        obtain ⟨n6, d6⟩ := hl6
        have hseq : TupKept s5.heap h6 := TupKept.turn hs6 d1 (by intro e; injection e with e; exact absurd e (by decide))
        have kb : KeepBut D s5.heap h6 := fun b o ne e => (hs6.2 b ne).trans e
        have oi : ∀ C dx, listObj vs n ≠ instObj C dx := fun C dx e => by cases e
        have hr6 : HR G am5 h6 hp5 := by
          have ne2 : ∀ q ∈ am5, q.2 ≠ D := fun q hq e => ac5.out (by rw [← e]; exact List.mem_map_of_mem hq)
          refine ⟨w3.len, w3.nodup, fun i oi p h1 h2 => ?_, fun b o e => kb _ _ (fun e' => by rw [e', hDb] at e; cases e) (w3.base b o e)⟩
          have n2 := ne2 p (List.mem_of_getElem? h2)
          have n1 : p.1 ≠ D := fun e => n2 (by rw [← w3.first d1 (fun C dx e => by cases e) p (List.mem_of_getElem? h2) e]; exact e)
          exact (w3.objs i oi p h1 h2).mono hseq (fun _ _ e => e) (fun ob e => kb _ _ n1 e) (fun ob e => kb _ _ n2 e)
        have R6 := R5.keepBut (tk := s5.toks) kb hr6 hseq hDo
        have p6 : P xs h6 am5 := ip.keep _ _ _ _ _ p5 (hs6.2 a (Ne.symm hDa)) hseq (fun _ _ e => e)
        have af6 := af5.transBut kb hD0 hseq
        refine ih l1 (acc ++ [v]) hp5 { s5 with heap := h6 } am5 w1 p6 R6 hm5 ⟨⟨vs ++ [y], n6, by rw [d6]; simp [listObj], (d2.mono hseq fun _ _ e => e).append (.cons (w2.mono hseq fun _ _ e => e) .nil)⟩, w0, ac5.out⟩ af6
end
end Mine

end
noncomputable section
namespace Mine
open PySem PySem.W PyProof.Rows

noncomputable def clOf (env : Env) : List (Str × NameKind) → List (Str × Addr) → List (Str × Addr)
  | [], acc => acc
  | (n, k) :: r, acc => if k == .free then clOf env r ((n, (env.cells.lookup n).getD 0) :: acc) else clOf env r acc

theorem closure_is {env : Env} : ∀ (names : List (Str × NameKind)) (acc : List (Str × Addr)), (∀ x ∈ names, x.2 = .free → ∃ c, env.cells.lookup x.1 = some c) →
    (forIn names acc (fun x cs => if x.2 == .free then (do let c ← cellOf env x.1; pure (ForInStep.yield ((x.1, c) :: cs))) else pure (ForInStep.yield cs)) : Sem (List (Str × Addr))) = pure (clOf env names acc)
  | [], acc, _ => rfl
  | (n, k) :: r, acc, h => by
    rw [List.forIn_cons]
    unfold clOf
    by_cases hk : (k == .free) = true
    · obtain ⟨c, hc⟩ := h (n, k) (.head _) (beq_iff_eq.mp hk)
      have e : cellOf env n = pure c := by unfold cellOf; rw [hc]
      simp only [hk, if_true]
      rw [e]
      simp only [sem_pb]
      rw [show (env.cells.lookup n).getD 0 = c by rw [hc]; rfl]
      exact closure_is r _ fun x hx => h x (.tail _ hx)
    · simp only [hk]
      simp only [Bool.false_eq_true, if_false, sem_pb]
      exact closure_is r _ fun x hx => h x (.tail _ hx)

theorem closureFor_is {scope : Scope} {env : Env} (h : ∀ x ∈ scope.names, x.2 = .free → ∃ c, env.cells.lookup x.1 = some c) : closureFor scope env = pure (clOf env scope.names []) := by
  unfold closureFor
  exact Eq.trans (congrArg (fun (m : Sem (List (Str × Addr))) => m >>= fun s => pure s) (closure_is scope.names [] h)) rfl

theorem clOf_mem {env : Env} {x : Str} {c : Addr} : ∀ {names : List (Str × NameKind)} {acc : List (Str × Addr)}, (x, c) ∈ clOf env names acc → (x, c) ∈ acc ∨ ((x, NameKind.free) ∈ names ∧ c = (env.cells.lookup x).getD 0)
  | [], acc, h => .inl h
  | (n, k) :: r, acc, h => by
    unfold clOf at h
    by_cases hk : (k == .free) = true
    · rw [if_pos hk] at h
      rcases clOf_mem h with e | ⟨e1, e2⟩
      · rcases List.mem_cons.mp e with e | e
        · cases e; exact .inr ⟨by rw [beq_iff_eq.mp hk]; exact .head _, rfl⟩
        · exact .inl e
      · exact .inr ⟨.tail _ e1, e2⟩
    · rw [if_neg hk] at h
      rcases clOf_mem h with e | ⟨e1, e2⟩
      · exact .inl e
      · exact .inr ⟨.tail _ e1, e2⟩
theorem clOf_has {env : Env} {x : Str} : ∀ {names : List (Str × NameKind)} {acc : List (Str × Addr)}, ((x, NameKind.free) ∈ names ∨ ∃ c, (x, c) ∈ acc) → ∃ c, (x, c) ∈ clOf env names acc
  | [], acc, h => by rcases h with h | h; cases h; exact h
  | (n, k) :: r, acc, h => by
    unfold clOf
    by_cases hk : (k == .free) = true
    · rw [if_pos hk]
      rcases h with h | ⟨c, h⟩
      · rcases List.mem_cons.mp h with e | e
        · cases e; exact clOf_has (.inr ⟨_, .head _⟩)
        · exact clOf_has (.inl e)
      · exact clOf_has (.inr ⟨c, .tail _ h⟩)
    · rw [if_neg hk]
      rcases h with h | h
      · rcases List.mem_cons.mp h with e | e
        · cases e; exact absurd rfl hk
        · exact clOf_has (.inl e)
      · exact clOf_has (.inr h)
theorem clOf_names {env : Env} : ∀ (names : List (Str × NameKind)) (acc : List (Str × Addr)), (clOf env names acc).map (·.1) = ((names.filter fun p => p.2 == .free).map (·.1)).reverse ++ acc.map (·.1)
  | [], acc => rfl
  | (n, k) :: r, acc => by
    unfold clOf
    by_cases hk : (k == .free) = true
    · rw [if_pos hk, clOf_names r]; simp [hk]
    · rw [if_neg hk, clOf_names r]; simp [hk]

noncomputable def relS (scope : Scope) : Scope := { scope with names := scope.names.map fun p => if p.2 == .free then (p.1, .cell) else p }
noncomputable def compOk (scope : Scope) (names : List (Str × NameKind)) : Bool := scope.kind == .function && !scope.isGenerator && !scope.isCoroutine && (scope.names.all fun p => !(p.2 == .cell) && (!(p.2 == .free) || names.contains (p.1, .cell)) && (!(p.2 == .local) || scope.names.lookup p.1 == some .local)) && decide ((scope.names.filter fun p => p.2 == .free).map (·.1)).Nodup
noncomputable def compNames (scope : Scope) : List (Str × NameKind) := (relS scope).names.filter fun p => kindL p.2
noncomputable def idxOf (x : Str × NameKind) : List (Str × NameKind) → Nat
  | [] => 0
  | y :: r => if y == x then 0 else idxOf x r + 1
noncomputable def capOf (names : List (Str × NameKind)) : Nat → List (Str × NameKind) → List (Nat × Nat)
  | _, [] => []
  | i, (x, k) :: r => if k == .cell then (i, idxOf (x, k) names) :: capOf names (i + 1) r else capOf names (i + 1) r
noncomputable def capOk (cap : List (Nat × Nat)) (cn names : List (Str × NameKind)) : Bool := cap.all fun p => match cn[p.1]?, names[p.2]? with
  | some (x, k), some (y, k') => x == y && k == .cell && k' == .cell
  | _, _ => false

theorem capL_get : ∀ {cap : List (Nat × Nat)} {o l l' : Locs}, capL cap o l = some l' → l'.length = l.length ∧ ∀ {i : Nat} {v : V}, Mine.getL l' i = some v → Mine.getL l i = some v ∨ ∃ j, (i, j) ∈ cap ∧ Mine.getL o j = some v
  | [], o, l, l', h => by simp only [capL] at h; cases h; exact ⟨rfl, fun h => .inl h⟩
  | (a, b) :: r, o, l, l', h => by
    simp only [capL] at h
    split at h
    · rename_i u hu
      obtain ⟨h1, h2⟩ := capL_get h
      refine ⟨by rw [h1]; simp, fun {i v} e => ?_⟩
      rcases h2 e with e | ⟨j, e1, e2⟩
      · rcases getL_set e with ⟨rfl, rfl⟩ | ⟨_, e⟩
        · exact .inr ⟨b, .head _, hu⟩
        · exact .inl e
      · exact .inr ⟨j, .tail _ e1, e2⟩
    · cases h

section
variable {G : Glb} {g : Genv} {C N : Oracle} {env : Env} {names : List (Str × NameKind)} {r : Nat} {s : Shared} {am : AM} {loc : Locs} {hp : Hp}

theorem relabel_is (O : EnvOk env names) {scope : Scope} (h : compOk scope names = true) : relabel scope env = relS scope := by
  simp only [compOk, Bool.and_eq_true, List.all_eq_true] at h
  unfold relabel relS
  congr 1
  refine List.map_congr_left fun p hp => ?_
  obtain ⟨n, k⟩ := p
  have q := (h.1.2 _ hp).1.2
  dsimp only at q ⊢
  by_cases hk : (k == .free) = true
  · rw [hk] at q
    simp only [Bool.not_true, Bool.false_or, List.contains_iff_mem] at q
    obtain ⟨i, hi⟩ := List.mem_iff_getElem?.mp q
    rw [hk, O.kind, (O.kinds i _ _ hi).1]
    rfl
  · have hk' : (k == .free) = false := by simpa using hk
    rw [hk']; rfl

theorem compEnv_ok (O : EnvOk env names) {scope : Scope} (h : compOk scope names = true) (hs : slotsOk (compNames scope) (relS scope) = true) (cl : List (Str × Addr)) (L : Addr) : EnvOk (compEnvC scope cl L env) (compNames scope) := by
  have hk : scope.kind = .function := by
    simp only [compOk, Bool.and_eq_true, beq_iff_eq] at h; exact h.1.1.1.1
  refine envOk_of ?_ hk O.glob O.bi
  show slotsOk _ (relabel scope env) = true
  rw [relabel_is O h]; exact hs

theorem comp_rel (O : EnvOk env names) {scope : Scope} (h : compOk scope names = true) (R : Rel G env names s am loc hp) {L : Addr} {m : Str → Option Value} (hns : s.heap.Ns L m) (hLo : L ∉ ownA env) (hLm : L ∉ am.muts) (hLb : G.base.objs.size ≤ L)
    {cap : List (Nat × Nat)} (hcap : capOk cap (compNames scope) names = true) {l0 : Locs} (hl0 : capL cap loc (List.replicate (compNames scope).length none) = some l0) : Rel G (compEnvC scope (clOf env scope.names []) L env) (compNames scope) s am l0 hp := by
  have hh := h
  simp only [compOk, Bool.and_eq_true, List.all_eq_true, decide_eq_true_eq] at hh
  obtain ⟨⟨_, hall⟩, hnd⟩ := hh
  have free : ∀ x, (x, NameKind.free) ∈ scope.names → (x, NameKind.cell) ∈ names := fun x hx => by
    have := (hall _ hx).1.2
    simpa [List.contains_iff_mem] using this
  have look : ∀ x, (x, NameKind.free) ∈ scope.names → ∃ c v, env.cells.lookup x = some c ∧ s.heap.IsCell c v := fun x hx => R.cells x (free x hx)
  have mem : ∀ x c, (x, c) ∈ clOf env scope.names [] → env.cells.lookup x = some c ∧ (x, NameKind.free) ∈ scope.names := fun x c hx => by
    rcases clOf_mem hx with e | ⟨e1, e2⟩
    · cases e
    · obtain ⟨d, v, hd, _⟩ := look x e1
      rw [hd] at e2; cases e2; exact ⟨hd, e1⟩
  have nd : ((clOf env scope.names []).map (·.1)).Nodup := by
    rw [clOf_names]
    simp only [List.map_nil, List.append_nil]
    exact List.pairwise_reverse.mpr (hnd.imp fun h => h.symm)
  have cnC : ∀ x, (x, NameKind.cell) ∈ compNames scope → (x, NameKind.free) ∈ scope.names := fun x hx => by
    unfold compNames relS at hx
    obtain ⟨p, hp, e⟩ := List.mem_map.mp (List.mem_filter.mp hx).1
    by_cases hk : (p.2 == .free) = true
    · rw [if_pos hk] at e; cases e
      have : p = (p.1, NameKind.free) := by rw [← beq_iff_eq.mp hk]
      rw [← this]; exact hp
    · rw [if_neg hk] at e
      subst e
      have := (hall _ hp).1.1
      simp at this
  have clk : ∀ x, (x, NameKind.free) ∈ scope.names → ∃ c v, (clOf env scope.names []).lookup x = some c ∧ env.cells.lookup x = some c ∧ s.heap.IsCell c v := fun x hx => by
    obtain ⟨c, hc⟩ := clOf_has (env := env) (acc := []) (.inl hx)
    obtain ⟨h1, _⟩ := mem x c hc
    obtain ⟨d, v, hd, hv⟩ := look x hx
    rw [h1] at hd; cases hd
    exact ⟨c, v, lookup_of_mem nd hc, h1, hv⟩
  obtain ⟨m0, F, lr⟩ := R.fr
  obtain ⟨ll, lg⟩ := capL_get hl0
  have inOwn : ∀ c ∈ clOf env scope.names [], c.2 ∈ ownA env ∧ c ∈ env.cells := fun c hc => by
    have := mem_of_lookup (mem c.1 c.2 hc).1
    exact ⟨by simp only [ownA, List.mem_cons, List.mem_map]; exact .inr ⟨c, this, rfl⟩, this⟩
  refine ⟨R.hr, ⟨m, ⟨hns, R.hr.base, hLb⟩, ?_⟩, ?_, ?_, ?_, ?_, ?_, R.same⟩
  · intro i v e
    rcases lg e with e | ⟨j, e1, e2⟩
    · unfold Mine.getL at e
      rw [List.getElem?_replicate] at e
      split at e
      · rename_i q; split at q <;> cases q
      · cases e
    · obtain ⟨y, k, val, h1, h2, h3⟩ := lr j v e2
      have q := List.all_eq_true.mp hcap _ e1
      dsimp only at q
      rw [h1] at q
      cases hc : (compNames scope)[i]? with
      | none => rw [hc] at q; cases q
      | some z =>
        obtain ⟨x, kx⟩ := z
        rw [hc] at q
        simp only [Bool.and_eq_true, beq_iff_eq] at q
        obtain ⟨⟨rfl, rfl⟩, rfl⟩ := q
        refine ⟨x, .cell, val, rfl, h2, ?_⟩
        simp only [BindAt] at h3 ⊢
        obtain ⟨c, h4, h5⟩ := h3
        obtain ⟨d, v', w1, w2, w3⟩ := clk x (cnC x (List.mem_of_getElem? hc))
        rw [h4] at w2; cases w2
        exact ⟨c, w1, h5⟩
  · intro b hb
    have hb' : b = L ∨ ∃ c ∈ clOf env scope.names [], c.2 = b := by
      have : b ∈ L :: (clOf env scope.names []).map (·.2) := hb
      rcases List.mem_cons.mp this with e | e
      · exact .inl e
      · obtain ⟨c, hc, e⟩ := List.mem_map.mp e; exact .inr ⟨c, hc, e⟩
    rcases hb' with rfl | ⟨c, hc, rfl⟩
    · refine ⟨hLm, ?_⟩
      cases q : G.base.get? b with
      | none => rfl
      | some o => exact absurd (Heap.lt_size q) (Nat.not_lt.mpr hLb)
    · exact R.own _ (inOwn c hc).1
  · intro x hx
    obtain ⟨c, v, w1, w2, w3⟩ := clk x (cnC x hx)
    exact ⟨c, v, w1, w3⟩
  · show (clOf env scope.names []).Pairwise _
    have := nd
    rw [List.Nodup, List.pairwise_map] at this
    refine List.Pairwise.imp_of_mem (fun {x y} hx hy hne e => hne ?_) this
    exact name_of_addr R.apart (inOwn x hx).2 (e ▸ (inOwn y hy).2)
  · intro c hc
    have hc' : c ∈ clOf env scope.names [] := hc
    refine ⟨fun e => hLo ?_, (R.apartL c (inOwn c hc').2).2⟩
    have : c.2 = L := e
    rw [← this]; exact (inOwn c hc').1
  · rw [ll]; simp
end
end Mine

end
noncomputable section
namespace Mine
open PySem PySem.W PyProof.Rows

section
variable {G : Glb} {g : Genv} {C N : Oracle} {env : Env} {names : List (Str × NameKind)} {r : Nat}

theorem HR.addAt {am : AM} {h : Heap} {hp : Hp} {D : Addr} {acc : List V} (x : HR G am h hp) (ac : AccAt G D acc h am) (hDb : G.base.get? D = none) : HR G (am ++ [(D, D)]) h (hp ++ [.list acc]) := by
  obtain ⟨vs, n, h1, h2⟩ := ac.at_
  have le : AM.Le am (am ++ [(D, D)]) := fun i p e => by
    rw [List.getElem?_append_left (by obtain ⟨q, _⟩ := List.getElem?_eq_some_iff.mp e; exact q)]; exact e
  refine ⟨by simp [x.len], ?_, fun i o p e1 e2 => ?_, x.base⟩
  · simp only [AM.muts, List.map_append, List.map_cons, List.map_nil]
    rw [List.nodup_append]
    refine ⟨x.nodup, by simp, fun a ha b hb e => ac.out ?_⟩
    rw [← List.mem_singleton.mp hb, ← e]; exact ha
  · by_cases hi : i < am.length
    · rw [List.getElem?_append_left hi] at e2
      rw [List.getElem?_append_left (by rw [← x.len]; exact hi)] at e1
      exact (x.objs i o p e1 e2).mono (TupKept.refl h) le (fun _ e => e) (fun _ e => e)
    · have il : i = am.length := by
        obtain ⟨q, _⟩ := List.getElem?_eq_some_iff.mp e2
        simp at q; (first | lia | omega)
      subst il
      rw [am_last] at e2
      cases e2
      rw [x.len] at e1
      simp at e1
      subst e1
      exact .list h1 (h2.mono (TupKept.refl h) le) ac.len hDb

structure CompEnd (G : Glb) (s : Shared) (am : AM) (K : List V → Hp → Prop) (D L : Addr) (s' : Shared) : Prop where
  res : ∃ acc hp' am', K acc hp' ∧ HR G am' s'.heap hp' ∧ AccAt G D acc s'.heap am' ∧ Aft [] s.heap am s'.heap am' ∧ L ∉ am'.muts
  same : Same G s'
  newD : s.heap.get? D = none
  newL : s.heap.get? L = none
  ne : D ≠ L
  ns : ∃ m, s'.heap.Ns L m
  bD : G.base.get? D = none
  bL : G.base.get? L = none

theorem comp_core (O : EnvOk env names) {elt target iter : PySem.Expr} {ifs : List PySem.Expr} {scope : Scope} {pos : Pos} {k : ItK} {isrc ie : Mine.E} {is : List Nat} {ics : List Mine.E} {cap : List (Nat × Nat)} {n : Nat}
    (h : compOk scope names = true) (hs : slotsOk (compNames scope) (relS scope) = true) (hcap : capOk cap (compNames scope) names = true) (hn : n = (compNames scope).length)
    (hi : SndIt G g C N env names r iter k isrc)
    (ht : ∀ cenv, EnvOk cenv (compNames scope) → SndTgt G true cenv (compNames scope) target is) (hc : ∀ cenv, EnvOk cenv (compNames scope) → cenv.scope = relS scope → SndTs G g C N cenv (compNames scope) r ifs ics)
    (he : ∀ cenv, EnvOk cenv (compNames scope) → cenv.scope = relS scope → Snd G g C N cenv (compNames scope) r elt ie)
    {loc : Locs} {hp : Hp} {Q : V → Hp → Prop} {X : Nat → Hp → Prop} {A : Around} {s : Shared} {am : AM} {E : Value → Shared → Prop} {RR : Value → Addr → Result → Shared → Prop}
    (hw : wpE g C N loc (.comp n cap is k isrc ics ie) hp Q X) (rm : Room X A r) (R : Rel G env names s am loc hp)
    (hRR : ∀ D L f s', CompEnd G s am (fun acc hp' => Q (.ref hp'.length) (hp' ++ [.list acc])) D L s' → RR (.ref D) L (.ok f) s') :
    wpAny (model G.prog G.w) A (eval iter env) (fun x s1 => wpAny (model G.prog G.w) A (pyIter x) (fun it s2 => wpAny (model G.prog G.w) A (newList []) (fun acc s3 =>
      wpAny (model G.prog G.w) A (newFunctionEnv scope env.globals (clOf env scope.names []) [] env.qual none .none (some env)) (fun cenv s4 =>
        codeAny (model G.prog G.w) A (.compStart (.ListComp elt [⟨target, iter, ifs, 0⟩] scope pos) 0 it acc { cenv with scope := relabel scope env }) (RR acc cenv.locals) s4) E s3) E s2) E s1) E s := by
  dsimp only [wE_none, wE_bool, wE_int, wE_str, wE_loc, wE_glob, wE_bin, wE_not_, wE_cmp, wE_cmp2, wE_and_, wE_or_, wE_ite, wE_tup, wE_lst, wE_dct, wE_idx, wE_slc, wE_attr, wE_call, wE_new, wE_meth, wE_bi, wE_isi, wE_comp] at hw
  have hh := h
  simp only [compOk, Bool.and_eq_true, List.all_eq_true, decide_eq_true_eq, beq_iff_eq] at hh
  obtain ⟨⟨⟨⟨hkind, _⟩, _⟩, hall⟩, hnd⟩ := hh
  have hcell : ∀ x ∈ scope.names, x.2 ≠ .cell := fun x hx e => by
    have := (hall x hx).1.1
    rw [e] at this; simp at this
  refine wpAny_mono (hi loc hp (fun xs grd h => onSome (capL cap loc (List.replicate n none)) fun l0 => compWp grd _ xs l0 [] h _) X A s am E hw rm R) (fun x s1 z => wpAny_mono z (fun it s2 y => ?_) fun _ _ y => y) fun _ _ z => z
  obtain ⟨a, xs, grd, P, hp2, am2, rfl, y1, ip, y2, y3, y4, y5, y6, y7, y8⟩ := y
  cases hl0 : capL cap loc (List.replicate n none) with
  | none => rw [hl0] at y1; exact y1.elim
  | some l0 =>
    rw [hl0, onSome_some] at y1
    have R2 := R.step y4 y3 y8
    obtain ⟨hh2, gn, dd, tt, os⟩ := s2
    dsimp only at y2 y3 y4
    refine wpAny_newObj_type (wpAny_newFunctionEnv hcell (by intro y hy; simp at hy) (fun h4 hns4 hsb4 => ?_) hkind)
    dsimp only at hns4 hsb4 ⊢
    generalize hH3 : hh2.push { cls := .type "list", dict := none, data := .seq ([] : List Value).toArray } = H3 at hns4 hsb4 ⊢
    have hC : H3.objs.size = hh2.objs.size + 1 := by rw [← hH3, Heap.size_push]
    have hDC : hh2.objs.size ≠ H3.objs.size := by rw [hC]; exact Nat.ne_of_lt (Nat.lt_succ_self _)
    have below : ∀ b o, hh2.get? b = some o → b ≠ H3.objs.size ∧ b ≠ hh2.objs.size := fun b o e => ⟨by rw [hC]; exact Nat.ne_of_lt (Nat.lt_succ_of_lt (Heap.lt_size e)), Nat.ne_of_lt (Heap.lt_size e)⟩
    have old : ∀ b o, hh2.get? b = some o → h4.get? b = some o := fun b o e => hsb4.extBut b o (below b o e).1 (Heap.get?_push_of_some _ (hH3 ▸ Heap.get?_push_of_some _ e))
    have hacc : h4.get? hh2.objs.size = some (listObj [] 0) := hsb4.extBut _ _ hDC (Heap.get?_push_of_some _ (hH3 ▸ Heap.get?_push_size _ rfl))
    have fresh2 : ∀ b, hh2.objs.size ≤ b → hh2.get? b = none := fun b hb => by
      cases e : hh2.get? b with
      | none => rfl
      | some o => exact absurd (Heap.lt_size e) (Nat.not_lt.mpr hb)
    have fresh0 : ∀ b, hh2.objs.size ≤ b → s.heap.get? b = none := fun b hb => by
      cases e : s.heap.get? b with
      | none => rfl
      | some o => have := y4.live b (by rw [e]; rfl); rw [fresh2 b hb] at this; cases this
    have dD := fresh2 hh2.objs.size (Nat.le_refl _)
    have dL := fresh2 H3.objs.size (by rw [hC]; exact Nat.le_succ _)
    have notMut : ∀ b, hh2.get? b = none → b ∉ am2.muts := fun b e q => by
      obtain ⟨p, hp1, e1⟩ := List.mem_map.mp q
      obtain ⟨_, o, ho2, _⟩ := y3.live hp1
      rw [e1, e] at ho2; cases ho2
    have notBase : ∀ b, hh2.get? b = none → G.base.get? b = none := fun b e => by
      cases q : G.base.get? b with
      | none => rfl
      | some o => rw [y3.base _ _ q] at e; cases e
    have notOwn : ∀ b, hh2.get? b = none → b ∉ ownA env := fun b e q => by
      have : (hh2.get? b).isSome = true := by
        simp only [ownA, List.mem_cons, List.mem_map] at q
        rcases q with e | ⟨c, hc, e⟩
        · obtain ⟨m, F, _⟩ := R2.fr
          obtain ⟨o, es, ep, ho, _⟩ := F.ns; rw [e, ho]; rfl
        · rw [← e]; exact (R2.apartL c hc).2
      rw [e] at this; cases this
    have af4 : Aft [] hh2 am2 h4 am2 := Aft.ofKeep old
    have R4 : Rel G env names ⟨h4, gn, dd, tt, os⟩ am2 loc hp2 := R2.step (s' := ⟨h4, gn, dd, tt, os⟩) af4 (y3.keepAll old) ⟨y8.gens, y8.os⟩
    have oa : ∃ o, hh2.get? a = some o := by obtain ⟨o, ho, _⟩ := ip.live _ _ _ y2; exact ⟨o, ho⟩
    obtain ⟨oa, hoa⟩ := oa
    have cl := comp_rel O h R4 (L := H3.objs.size) (m := _) hns4 (notOwn _ dL) (notMut _ dL) (by rw [hC]; exact Nat.le_trans R2.size (Nat.le_succ _)) hcap (l0 := l0) (by rw [← hn]; exact hl0)
    have CO := compEnv_ok O h hs (clOf env scope.names []) H3.objs.size
    have sc : (compEnvC scope (clOf env scope.names []) H3.objs.size env).scope = relS scope := relabel_is O h
    have aOwn : a ∉ ownA (compEnvC scope (clOf env scope.names []) H3.objs.size env) := fun q => by
      have : a ∈ H3.objs.size :: (clOf env scope.names []).map (·.2) := q
      rcases List.mem_cons.mp this with e | e
      · rw [e, dL] at hoa; cases hoa
      · obtain ⟨c, hc, e⟩ := List.mem_map.mp e
        have : (s.heap.get? c.2).isSome = true := by
          rcases clOf_mem hc with e' | ⟨e1, e2⟩
          · cases e'
          · have fr := (hall _ e1).1.2
            have fm : (c.1, NameKind.cell) ∈ names := by simpa [List.contains_iff_mem] using fr
            obtain ⟨d, v, hd, ⟨o, ho, _⟩⟩ := R.cells c.1 fm
            rw [hd] at e2
            have : c.2 = d := e2
            rw [this, ho]; rfl
        rw [e, y5] at this; cases this
    have DOwn : hh2.objs.size ∉ ownA (compEnvC scope (clOf env scope.names []) H3.objs.size env) := fun q => by
      have : hh2.objs.size ∈ H3.objs.size :: (clOf env scope.names []).map (·.2) := q
      rcases List.mem_cons.mp this with e | e
      · exact hDC e
      · obtain ⟨c, hc, e⟩ := List.mem_map.mp e
        have : (hh2.get? c.2).isSome = true := by
          rcases clOf_mem hc with e' | ⟨e1, e2⟩
          · cases e'
          · have fr := (hall _ e1).1.2
            have fm : (c.1, NameKind.cell) ∈ names := by simpa [List.contains_iff_mem] using fr
            obtain ⟨d, v, hd, ⟨o, ho, _⟩⟩ := R2.cells c.1 fm
            rw [hd] at e2
            have : c.2 = d := e2
            rw [this, ho]; rfl
        rw [e, dD] at this; cases this
    have run := comp_run (K := fun acc hp' => Q (.ref hp'.length) (hp' ++ [.list acc])) (D := hh2.objs.size) (s0 := s) (am0 := am) (iter := iter) (scope := scope) (pos := pos) ip (ht _ CO) (hc _ CO sc) (he _ CO sc) rm aOwn y7 y5 DOwn (notBase _ dD) (fresh0 _ (Nat.le_refl _)) (fun e => by rw [← e, dD] at hoa; cases hoa)
      (fresh0 _ (by show hh2.objs.size ≤ H3.objs.size; rw [hC]; exact Nat.le_succ _)) xs l0 [] hp2 ⟨h4, gn, dd, tt, os⟩ am2 y1 (ip.after y2 af4 (by simp) y6) cl y6
      ⟨⟨[], 0, hacc, .nil⟩, Nat.zero_le _, notMut _ dD⟩ (y4.trans af4)
    have fin : codeAny (model G.prog G.w) A (.compLoop (.ListComp elt [⟨target, iter, ifs, 0⟩] scope pos) 0 (.ref a) (.ref hh2.objs.size) (compEnvC scope (clOf env scope.names []) H3.objs.size env)) (RR (.ref hh2.objs.size) H3.objs.size) ⟨h4, gn, dd, tt, os⟩ := by
      refine codeAny_mono run fun res s' z => ?_
      cases res with
      | error e => exact z.elim
      | ok f =>
        obtain ⟨acc', hp', am', l', z1, z2, z3, z4⟩ := z
        obtain ⟨m', F', _⟩ := z2.fr
        exact hRR _ _ f s' ⟨⟨acc', hp', am', z1, z2.hr, z3, z4, (z2.own _ (by simp [ownA, compEnvC])).1⟩, z2.same, fresh0 _ (Nat.le_refl _), fresh0 _ (by rw [hC]; exact Nat.le_succ _), hDC, ⟨m', F'.ns⟩, notBase _ dD, notBase _ dL⟩
    exact codeAny_compStart_list fin (ip.again A ⟨h4, gn, dd, tt, os⟩ am2 xs _ _ (ip.after y2 af4 (by simp) y6) fin)

theorem snd_comp (O : EnvOk env names) {elt target iter : PySem.Expr} {ifs : List PySem.Expr} {scope : Scope} {pos : Pos} {k : ItK} {isrc ie : Mine.E} {is : List Nat} {ics : List Mine.E} {cap : List (Nat × Nat)} {n : Nat}
    (h : compOk scope names = true) (hs : slotsOk (compNames scope) (relS scope) = true) (hcap : capOk cap (compNames scope) names = true) (hn : n = (compNames scope).length)
    (hf : foldedPlain iter = true) (hi : SndIt G g C N env names r iter k isrc)
    (ht : ∀ cenv, EnvOk cenv (compNames scope) → SndTgt G true cenv (compNames scope) target is) (hc : ∀ cenv, EnvOk cenv (compNames scope) → cenv.scope = relS scope → SndTs G g C N cenv (compNames scope) r ifs ics)
    (he : ∀ cenv, EnvOk cenv (compNames scope) → cenv.scope = relS scope → Snd G g C N cenv (compNames scope) r elt ie) :
    Snd G g C N env names r (.ListComp elt [⟨target, iter, ifs, 0⟩] scope pos) (.comp n cap is k isrc ics ie) := fun loc hp Q X A s am hw rm R => by
  have hh := h
  simp only [compOk, Bool.and_eq_true, List.all_eq_true, decide_eq_true_eq, beq_iff_eq] at hh
  obtain ⟨⟨⟨⟨hkind, _⟩, _⟩, hall⟩, hnd⟩ := hh
  rw [eval_ListComp]
  refine wpAny_comprehension_free (use := none) rfl (folded_plain hf env) (closureFor_is fun x hx e => ?_) hkind (fun x hx e => ?_) (comp_core O h hs hcap hn hi ht hc he hw rm R fun D L f s' z => ?_)
  · have fr := (hall _ hx).1.2
    rw [e] at fr
    have fm : (x.1, NameKind.cell) ∈ names := by simpa [List.contains_iff_mem] using fr
    obtain ⟨c, _, hc, _⟩ := R.cells x.1 fm
    exact ⟨c, hc⟩
  · have := (hall _ hx).2
    rw [e] at this
    simpa using this
  · obtain ⟨acc, hp', am', z1, z2, z3, z4, z5⟩ := z.res
    obtain ⟨m, hm⟩ := z.ns
    refine ⟨m, hm, fun h' hs' => ?_⟩
    obtain ⟨oL, hL, hLi, eL, pL, dL⟩ := ns_obj hm
    obtain ⟨hr', tk⟩ := z2.sameBut hs' hL hLi (fun _ _ q => by rw [q] at dL; cases dL) z5 z.bL
    have kb : KeepBut L s'.heap h' := fun b o ne e => (hs'.2 b ne).trans e
    have ac := z3.keepBut kb z.ne tk
    have af := z4.transBut kb z.newL tk
    have lst : (am' ++ [(D, D)])[hp'.length]? = some (D, D) := by rw [← hr'.len]; exact am_last _
    refine ⟨.ref hp'.length, _, _, z1, .ref lst, hr'.addAt ac z.bD, ?_, ⟨z.same.gens, z.same.os⟩⟩
    obtain ⟨l, e, f2⟩ := af.ext
    refine ⟨fun b o e n1 n2 => af.keep b o e n1 n2, af.tup, ⟨l ++ [(D, D)], by rw [e]; simp, fun p hp1 => ?_⟩, af.live⟩
    rcases List.mem_append.mp hp1 with q | q
    · exact f2 p q
    · rw [List.mem_singleton.mp q]; exact ⟨z.newD, z.newD⟩
end
end Mine

end
noncomputable section
namespace Mine
open PySem PySem.W PyProof.Rows

section
variable {G : Glb} {g : Genv} {C N : Oracle} {env : Env} {names : List (Str × NameKind)} {r : Nat}

noncomputable def swapB (scope : Scope) (x : Str) (k : NameKind) (p pos : Pos) : Bool := k == .local && p.line == pos.line && !(scope.names.any fun q => q.1 == x && (q.2 == .local || q.2 == .cell))

theorem swaps_comp (O : EnvOk env names) {elt : PySem.Expr} {gens : List Comprehension} {scope : Scope} {pos p : Pos} {x : Str} {k : NameKind} {line : Nat} (hk : env.kindOf x = some k) :
    swapsWith (.ListComp elt gens scope pos) (some (.Name x p)) line env = pure (swapB scope x k p pos) := by
  show (pure (env.blockKind == .function && env.kindOf x == some .local && p.line == pos.line && !(scope.names.any fun (n, k) => n == x && (k == .local || k == .cell))) : Sem Bool) = _
  have hb : env.blockKind = .function := by unfold Env.blockKind; rw [O.kind]; rfl
  rw [hb, hk]
  unfold swapB
  congr 1

theorem sndS_asgL0 (O : EnvOk env names) {e : PySem.Expr} {i : Mine.E} {x : Str} {k : NameKind} {j : Nat} {p pos : Pos} (hx : names[j]? = some (x, k)) (hk : k = .local ∨ k = .cell) (hc : swapsWith e (some (.Name x p)) pos.line env = pure false) (h1 : Snd G g C N env names r e i) :
    SndS G g C N env names r (.Assign [.Name x p] e pos) (.asg (.loc j) i) := fun σ KN KR X A s am E h rm R => by
  dsimp only [wS_skip, wS_seq, wS_expr, wS_asg, wS_if_, wS_while_, wS_for_, wS_ret, wS_raise, wT_loc, wT_attr, wT_idx, wT_unp] at h
  refine wpAny_Assign_Name (wpAny_mono (h1 σ.loc σ.hp _ X A s am h rm R) (fun v s1 z => ?_) fun _ _ z => z.no.elim) hc
  obtain ⟨c, p1, am1, ⟨z0, z1⟩, z2, z3, z4, z5⟩ := z
  exact store_ok O (R.step z4 z3 z5) hx hk z2 fun s' R' a' => ⟨_, p1, am1, z1, R', z4.weaken.trans a'⟩

theorem sndS_asgC (O : EnvOk env names) {elt target iter : PySem.Expr} {ifs : List PySem.Expr} {scope : Scope} {pos p spos : Pos} {k : ItK} {isrc ie : Mine.E} {is : List Nat} {ics : List Mine.E} {cap : List (Nat × Nat)} {n : Nat} {x : Str} {kx : NameKind} {j : Nat}
    (hx : names[j]? = some (x, kx)) (hk : kx = .local ∨ kx = .cell)
    (h : compOk scope names = true) (hs : slotsOk (compNames scope) (relS scope) = true) (hcap : capOk cap (compNames scope) names = true) (hn : n = (compNames scope).length)
    (hf : foldedPlain iter = true) (hi : SndIt G g C N env names r iter k isrc)
    (ht : ∀ cenv, EnvOk cenv (compNames scope) → SndTgt G true cenv (compNames scope) target is) (hc : ∀ cenv, EnvOk cenv (compNames scope) → cenv.scope = relS scope → SndTs G g C N cenv (compNames scope) r ifs ics)
    (he : ∀ cenv, EnvOk cenv (compNames scope) → cenv.scope = relS scope → Snd G g C N cenv (compNames scope) r elt ie) :
    SndS G g C N env names r (.Assign [.Name x p] (.ListComp elt [⟨target, iter, ifs, 0⟩] scope pos) spos) (.asg (.loc j) (.comp n cap is k isrc ics ie)) := by
  have hkx := (O.kinds j x kx hx).1
  cases hb : swapB scope x kx p pos with
  | false => exact sndS_asgL0 O hx hk (by rw [swaps_comp O hkx, hb]) (snd_comp O h hs hcap hn hf hi ht hc he)
  | true =>
    intro σ KN KR X A s am E hw rm R
    dsimp only [wS_skip, wS_seq, wS_expr, wS_asg, wS_if_, wS_while_, wS_for_, wS_ret, wS_raise, wT_loc, wT_attr, wT_idx, wT_unp] at hw
    have hh := h
    simp only [compOk, Bool.and_eq_true, List.all_eq_true, decide_eq_true_eq, beq_iff_eq] at hh
    obtain ⟨⟨⟨⟨hkind, _⟩, _⟩, hall⟩, hnd⟩ := hh
    rw [exec_Assign_Name_used _ _ _ _ (by rw [swaps_comp O hkx, hb])]
    refine wpAny_bind (wpAny_standAt (wpAny_bind ?_))
    show wpAny _ A (do let _ ← comprehension (.ListComp elt [⟨target, iter, ifs, 0⟩] scope pos) scope env _ (newList []) false (eval iter env) (some (assign (.Name x p) env))) _ _ s
    refine wpAny_bind (wpAny_mono (wpAny_comprehension_free (use := some (assign (.Name x p) env)) (Q := fun _ s' => SP G env names s am KN KR .next s') rfl (folded_plain hf env) (closureFor_is fun y hy e => ?_) hkind (fun y hy e => ?_)
      (comp_core O h hs hcap hn hi ht hc he hw rm R fun D L f s' z => ?_)) (fun _ s' hq => wpAny_pure (wpAny_pure hq)) fun _ _ e => e)
    · have fr := (hall _ hy).1.2
      rw [e] at fr
      have fm : (y.1, NameKind.cell) ∈ names := by simpa [List.contains_iff_mem] using fr
      obtain ⟨c, _, hc, _⟩ := R.cells y.1 fm
      exact ⟨c, hc⟩
    · have := (hall _ hy).2
      rw [e] at this
      simpa using this
    · obtain ⟨acc, hp', am', z1, z2, z3, z4, z5⟩ := z.res
      obtain ⟨m, hm⟩ := z.ns
      have hr' := z2.addAt z3 z.bD
      have lst : (am' ++ [(D, D)])[hp'.length]? = some (D, D) := by rw [← z2.len]; exact am_last _
      have af : Aft [] s.heap am s'.heap (am' ++ [(D, D)]) := by
        obtain ⟨l, e, f2⟩ := z4.ext
        refine ⟨fun b o e n1 n2 => z4.keep b o e n1 n2, z4.tup, ⟨l ++ [(D, D)], by rw [e]; simp, fun p hp1 => ?_⟩, z4.live⟩
        rcases List.mem_append.mp hp1 with q | q
        · exact f2 p q
        · rw [List.mem_singleton.mp q]; exact ⟨z.newD, z.newD⟩
      have R' := R.step af hr' z.same
      have hLo : L ∉ ownA env := fun q => by
        have : (s.heap.get? L).isSome = true := by
          simp only [ownA, List.mem_cons, List.mem_map] at q
          rcases q with e | ⟨c, hc, e⟩
          · obtain ⟨m, F, _⟩ := R.fr
            obtain ⟨o, es, ep, ho, _⟩ := F.ns; rw [e, ho]; rfl
          · rw [← e]; exact (R.apartL c hc).2
        rw [z.newL] at this; cases this
      have hLm : L ∉ (am' ++ [(D, D)]).muts := by
        simp only [AM.muts, List.map_append, List.mem_append, not_or]
        exact ⟨z5, by simpa using Ne.symm z.ne⟩
      show wpAny _ A (assign (.Name x p) env (.ref D)) _ _ _
      refine wpAny_assign_Name (store_ok O R' hx hk (.ref lst) fun s2 R2 a2 => ?_)
      obtain ⟨oL, hL, hLi, eL, pL, dL⟩ := ns_obj hm
      have hL2 := a2.keep L oL hL hLo hLm
      refine ⟨m, hm.at' fun o e => a2.keep L o e hLo hLm, fun h' hs' => ?_⟩
      obtain ⟨hr2, tk⟩ := R2.hr.sameBut hs' hL2 hLi (fun _ _ q => by rw [q] at dL; cases dL) hLm z.bL
      have kb : KeepBut L s2.heap h' := fun b o ne e => (hs'.2 b ne).trans e
      exact ⟨_, _, _, z1.2, R2.keepBut (tk := s2.toks) kb hr2 tk hLo, (af.weaken.trans a2).transBut kb z.newL tk⟩
end
end Mine

end
noncomputable section
namespace Mine
open PySem PySem.W PyProof.Rows

section
variable {G : Glb} {g : Genv} {C N : Oracle} {env : Env} {names : List (Str × NameKind)} {r : Nat}

theorem EvP.toB {s s' : Shared} {am : AM} {Q : Bool → Hp → Prop} {b : Bool} (x : EvP G s am (fun v h => onSome (isB v) fun b => Q b h) (.bool b) s') : EvPb G s am Q b s' := by
  obtain ⟨v, hp, am', x1, x2, x3, x4, x5⟩ := x
  cases x2
  exact ⟨hp, am', x1, x3, x4, x5⟩

theorem sndT_cmp2 (GO : GOk G) {e1 e2 e3 : PySem.Expr} {i1 i2 i3 : Mine.E} {o1 o2 : CmpOp} {c1 c2 : C2} {pos : Pos} (ho1 : opC o1 = some c1) (ho2 : opC o2 = some c2) (hm : lastMarks [o1, o2] [e2, e3] = false)
    (h1 : Snd G g C N env names r e1 i1) (h2 : Snd G g C N env names r e2 i2) (h3 : Snd G g C N env names r e3 i3) : SndT G g C N env names r (.Compare e1 [o1, o2] [e2, e3] pos) (.cmp2 c1 c2 i1 i2 i3) := fun loc hp Q X A s am whole h rm R _ => by
  dsimp only [wE_none, wE_bool, wE_int, wE_str, wE_loc, wE_glob, wE_bin, wE_not_, wE_cmp, wE_cmp2, wE_and_, wE_or_, wE_ite, wE_tup, wE_lst, wE_dct, wE_idx, wE_slc, wE_attr, wE_call, wE_new, wE_meth, wE_bi, wE_isi, wE_comp] at h
  refine isTrue_chain (wpAny_mono (chain2 (K := fun v h => onSome (isB v) fun b => Q b h) GO h1 h2 h3 ho1 ho2 rm R h (W := fun va vb s2 => wpAny (model G.prog G.w) A (compareOp o1 va vb) (fun c s₂ => wpAny (model G.prog G.w) A (truthy c)
      (fun t s₃ => if t then wpAny (model G.prog G.w) A (testChain pos vb [o2] [eval e3 env]) (EvPb G s am Q) (XP G [] s am X) s₃ else EvPb G s am Q false s₃) (XP G [] s am X) s₂) (XP G [] s am X) s2) fun va vb s2 z => ?_) (fun va s1 z => test_link z) fun _ _ z => z) hm
  refine wpAny_mono z (fun c s3 y => ?_) fun _ _ y => y
  rcases y with ⟨rfl, y⟩ | ⟨rfl, y⟩
  · exact wpAny_truthy_bool y.toB
  · refine wpAny_truthy_bool (test_last (wpAny_mono y (fun vc s4 w => wpAny_mono w (fun c s5 u => ?_) fun _ _ w => w) fun _ _ w => w))
    obtain ⟨v, hp5, am5, u1, u2, u3, u4, u5⟩ := u
    cases u2 with
    | bool b => exact wpAny_truthy_bool ⟨hp5, am5, u1, u3, u4, u5⟩
    | _ => exact u1.elim
theorem snd_gint (GK : GG G g) (O : EnvOk env names) {x : Str} {i : Int} {t : Tok} {pos : Pos} (hk : env.kindOf x = some .globalImplicit) (hd : (x == ("__debug__" : Str)) = false) (e : nsIn G.K mainGlobals x = some (some (.int i t))) :
    Snd G g C N env names r (.Name x pos) (.int i) := fun loc hp Q X A s am h rm R => by
  dsimp only [wE_none, wE_bool, wE_int, wE_str, wE_loc, wE_glob, wE_bin, wE_not_, wE_cmp, wE_cmp2, wE_and_, wE_or_, wE_ite, wE_tup, wE_lst, wE_dct, wE_idx, wE_slc, wE_attr, wE_call, wE_new, wE_meth, wE_bi, wE_isi, wE_comp] at h
  exact snd_global GK O R hk hd e (evp_here h (.int i t) R.hr rfl R.same)
end

structure Cx where
  K : Frag
  ws : List Str
  fnL : List Addr
  clsL : List Addr

noncomputable def idxStr (x : Str) : List Str → Option Nat
  | [] => none
  | y :: r => if x == y then some 0 else (idxStr x r).map (· + 1)
noncomputable def idxAddr (x : Addr) : List Addr → Option Nat
  | [] => none
  | y :: r => if x == y then some 0 else (idxAddr x r).map (· + 1)
noncomputable def idxName (x : Str) : List (Str × NameKind) → Option (Nat × NameKind)
  | [] => none
  | y :: r => if x == y.1 then some (0, y.2) else (idxName x r).map fun p => (p.1 + 1, p.2)
theorem idxStr_ok {x : Str} : ∀ {l : List Str} {i : Nat}, idxStr x l = some i → l[i]? = some x
  | [], _, h => by cases h
  | y :: r, i, h => by
    unfold idxStr at h
    split at h
    · rename_i e; cases h; rw [beq_iff_eq.mp e]; rfl
    · cases q : idxStr x r with
      | none => rw [q] at h; cases h
      | some j => rw [q] at h; cases h; simpa using idxStr_ok q
theorem idxAddr_ok {x : Addr} : ∀ {l : List Addr} {i : Nat}, idxAddr x l = some i → l[i]? = some x
  | [], _, h => by cases h
  | y :: r, i, h => by
    unfold idxAddr at h
    split at h
    · rename_i e; cases h; rw [beq_iff_eq.mp e]; rfl
    · cases q : idxAddr x r with
      | none => rw [q] at h; cases h
      | some j => rw [q] at h; cases h; simpa using idxAddr_ok q
theorem idxName_ok {x : Str} : ∀ {l : List (Str × NameKind)} {i : Nat} {k : NameKind}, idxName x l = some (i, k) → l[i]? = some (x, k)
  | [], _, _, h => by cases h
  | y :: r, i, k, h => by
    unfold idxName at h
    split at h
    · rename_i e; cases h; rw [beq_iff_eq.mp e]; rfl
    · cases q : idxName x r with
      | none => rw [q] at h; cases h
      | some j => obtain ⟨j, k'⟩ := j; rw [q] at h; cases h; simpa using idxName_ok q

noncomputable def isGl (sc : Scope) (x : Str) : Bool := sc.names.lookup x == some .globalImplicit && !(x == ("__debug__" : Str))
noncomputable def biOf (x : Str) : Option Bi := if x == "len" then some .len else if x == "int" then some .int else if x == "list" then some .list else if x == "tuple" then some .tuple else if x == "max" then some .max else if x == "min" then some .min else if x == "sum" then some .sum else none
noncomputable def tyOf (x : Str) : Option Ty := if x == "int" then some .int else if x == "bool" then some .bool else if x == "str" then some .str else if x == "tuple" then some .tuple else if x == "list" then some .list else none
theorem biOf_ok {x : Str} {b : Bi} (h : biOf x = some b) : x = biN b := by
  unfold biOf at h
  repeat' split at h
  all_goals first | (rename_i e; cases h; exact beq_iff_eq.mp e) | cases h
theorem tyOf_ok {x : Str} {t : Ty} (h : tyOf x = some t) : ∃ T, tyS t = some T ∧ x = Str.ofString T := by
  unfold tyOf at h
  repeat' split at h
  all_goals first | (rename_i e; cases h; exact ⟨_, rfl, beq_iff_eq.mp e⟩) | cases h

noncomputable def constI : PySem.Expr → Option Int
  | .Constant c _ _ => (match c with
    | .int a => some a
    | _ => none)
  | _ => none
theorem constI_some {e : PySem.Expr} {a : Int} (h : constI e = some a) : ∃ k p, e = .Constant (.int a) k p := by
  cases e with
  | Constant c k p => cases c <;> cases h; exact ⟨_, _, rfl⟩
  | _ => cases h
noncomputable def nmE : PySem.Expr → Option (Str × Pos)
  | .Name x p => some (x, p)
  | _ => none
theorem nmE_some {e : PySem.Expr} {x : Str × Pos} (h : nmE e = some x) : e = .Name x.1 x.2 := by
  cases e with
  | Name y p => cases h; rfl
  | _ => cases h
noncomputable def tupE : PySem.Expr → Option (List PySem.Expr × Nat × Pos)
  | .Tuple es k p => some (es, k, p)
  | _ => none
theorem tupE_some {e : PySem.Expr} {x : List PySem.Expr × Nat × Pos} (h : tupE e = some x) : e = .Tuple x.1 x.2.1 x.2.2 := by
  cases e with
  | Tuple y k p => cases h; rfl
  | _ => cases h
noncomputable def callA : PySem.Expr → Option (PySem.Expr × List PySem.Expr × List Keyword × Pos)
  | .Call f es kws p => some (f, es, kws, p)
  | _ => none
theorem callA_some {e : PySem.Expr} {x : PySem.Expr × List PySem.Expr × List Keyword × Pos} (h : callA e = some x) : e = .Call x.1 x.2.1 x.2.2.1 x.2.2.2 := by
  cases e with
  | Call f es kws p => cases h; rfl
  | _ => cases h
noncomputable def single {α : Type} : List α → Option α
  | [e] => some e
  | _ => none
theorem single_some {α : Type} {l : List α} {a : α} (h : single l = some a) : l = [a] := by
  cases l with
  | nil => cases h
  | cons x r => cases r with
    | nil => cases h; rfl
    | cons _ _ => cases h
noncomputable def powOf (a : PySem.Expr) (op : Operator) (b : PySem.Expr) : Option Mine.E := if op = .Pow then (constI a).bind fun x => (constI b).bind fun y => if 1 ≤ y ∧ 2 ≤ x ∧ Builtin.Int.intTooBig (((Builtin.Int.intBits x : Nat) : Int) * y) = false then some (.int (x ^ y.toNat)) else none else none
noncomputable def ctOf (cx : Cx) : Const → Option Mine.E
  | .none => some .none
  | .bool b => some (.bool b)
  | .int i => some (.int i)
  | .str s => (idxStr s cx.ws).map .str
  | _ => none
noncomputable def nmOf (cx : Cx) (names : List (Str × NameKind)) (sc : Scope) (x : Str) : Option Mine.E := match idxName x names with
  | some p => some (.loc p.1)
  | none => if isGl sc x then match nsIn cx.K mainGlobals x with
    | some (some (.int i _)) => some (.int i)
    | _ => none else none

noncomputable def tgsOf (b : Bool) (names : List (Str × NameKind)) : List PySem.Expr → Option (List Nat)
  | [] => some []
  | e :: es => (nmE e).bind fun x => (idxName x.1 names).bind fun p => (tgsOf b names es).bind fun is => if (p.2 == .local || (!b && p.2 == .cell)) = true then some (p.1 :: is) else none
noncomputable def tgOf (b : Bool) (names : List (Str × NameKind)) (e : PySem.Expr) : Option (List Nat) := match nmE e with
  | some _ => tgsOf b names [e]
  | none => (tupE e).bind fun t => (tgsOf b names t.1).bind fun is => if 2 ≤ is.length then some is else none

inductive Head where
  | fn (f : Nat)
  | cls (c : Nat)
  | bi (b : Bi)
  | isi

noncomputable def hdOf (cx : Cx) (sc : Scope) (x : Str) : Option Head := if isGl sc x then match nsIn cx.K mainGlobals x with
    | some (some (.ref a)) => match idxAddr a cx.fnL with
      | some f => some (.fn f)
      | none => match idxAddr a cx.clsL with
        | some c => some (.cls c)
        | none => none
    | some none => if x == "isinstance" then some .isi else (biOf x).map .bi
    | _ => none else none
noncomputable def isiOf (cx : Cx) (sc : Scope) (t : PySem.Expr) : Option Ty := (nmE t).bind fun x => if (isGl sc x.1 && nsIn cx.K mainGlobals x.1 == some none) = true then tyOf x.1 else none

inductive CallK where
  | name (x : Str)
  | meth (a : PySem.Expr) (x : Str) (ap : Pos)
  | no
noncomputable def callF : PySem.Expr → CallK
  | .Name x _ => .name x
  | .Attribute a x ap => .meth a x ap
  | _ => .no
noncomputable def callK (f : PySem.Expr) (kws : List Keyword) : CallK := if kws.isEmpty then callF f else .no
noncomputable def joinB : BoolOp → Mine.E → Mine.E → Mine.E
  | .And => .and_
  | .Or => .or_
noncomputable def boolOf (op : BoolOp) : List Mine.E → Option Mine.E
  | [] => none
  | i :: r => if r.isEmpty then some i else (boolOf op r).map (joinB op i)
noncomputable def cmp1 (op : CmpOp) (i j : Mine.E) : Option Mine.E := (opC op).map fun o => .cmp o i j
noncomputable def cmp2 (o1 o2 : CmpOp) (i j k : Mine.E) : Option Mine.E := (opC o1).bind fun c1 => (opC o2).map fun c2 => .cmp2 c1 c2 i j k
noncomputable def pair {α : Type} : List α → Option (α × α)
  | a :: r => (single r).map fun b => (a, b)
  | [] => none
theorem pair_some {α : Type} {l : List α} {p : α × α} (h : pair l = some p) : l = [p.1, p.2] := by
  cases l with
  | nil => cases h
  | cons a r =>
    obtain ⟨b, h1, h2⟩ := map_some' (show (single r).map _ = some p from h)
    subst h2
    rw [single_some h1]
noncomputable def cmpOf (ops : List CmpOp) (i : Mine.E) (js : List Mine.E) : Option Mine.E := match single ops with
  | some op => (single js).bind fun j => cmp1 op i j
  | none => (pair ops).bind fun o => (pair js).bind fun j => cmp2 o.1 o.2 i j.1 j.2
noncomputable def unOf (op : PySem.UnaryOp) (a : PySem.Expr) (i : Option Mine.E) : Option Mine.E := match op with
  | .Not => i.map .not_
  | .USub => (constI a).map fun a => .int (-a)
  | _ => none
noncomputable def slcParts : PySem.Expr → Option (Option PySem.Expr × Option PySem.Expr)
  | .Slice lo hi none _ => some (lo, hi)
  | _ => none
noncomputable def oneGen : List Comprehension → Option Comprehension
  | [g] => if g.is_async = 0 then some g else none
  | _ => none
noncomputable def isiArgs : List PySem.Expr → Option (PySem.Expr × PySem.Expr)
  | [a, t] => some (a, t)
  | _ => none
noncomputable def isName' (cx : Cx) (sc : Scope) (nm x : Str) : Bool := x == nm && isGl sc x && nsIn cx.K mainGlobals x == some none
noncomputable def nameCall (cx : Cx) (sc : Scope) (nm : Str) (e : PySem.Expr) : Option PySem.Expr := (callA e).bind fun c => (single c.2.1).bind fun a => match callK c.1 c.2.2.1 with
  | .name x => if isName' cx sc nm x = true then some a else none
  | _ => none
noncomputable def rangeArg (cx : Cx) (sc : Scope) (e : PySem.Expr) : Option PySem.Expr := (nameCall cx sc "range" e).bind fun a => if notStar a = true then some a else none
noncomputable def revArg (cx : Cx) (sc : Scope) (e : PySem.Expr) : Option PySem.Expr := (nameCall cx sc "reversed" e).bind fun a => rangeArg cx sc a
noncomputable def plainT : PySem.Expr → Bool
  | .Call .. => true
  | .Name .. => true
  | .Constant .. => true
  | .Attribute .. => true
  | .Subscript .. => true
  | _ => false
noncomputable def o2 (f : Mine.E → Mine.E → Mine.E) (a b : Option Mine.E) : Option Mine.E := a.bind fun i => b.map fun j => f i j
noncomputable def o3 (f : Mine.E → Mine.E → Mine.E → Mine.E) (a b c : Option Mine.E) : Option Mine.E := a.bind fun i => b.bind fun j => c.map fun k => f i j k
noncomputable def compGood (scope : Scope) (names : List (Str × NameKind)) (iter : PySem.Expr) : Bool := compOk scope names && slotsOk (compNames scope) (relS scope) && capOk (capOf names 0 (compNames scope)) (compNames scope) names && foldedPlain iter
noncomputable def headE (h : Head) (is : List Mine.E) : Option Mine.E := match h with
  | .fn f => some (.call f is)
  | .cls c => some (.new c is)
  | .bi b => some (.bi b is)
  | .isi => none

section
variable (cx : Cx)
mutual
noncomputable def compE (names : List (Str × NameKind)) (sc : Scope) : Nat → PySem.Expr → Option Mine.E
  | 0, _ => none
  | n + 1, e => match e with
    | .Constant c _ _ => ctOf cx c
    | .Name x _ => nmOf cx names sc x
    | .BinOp a op b _ => match powOf a op b with
      | some i => some i
      | none => (opB op).bind fun o => o2 (.bin o) (compE names sc n a) (compE names sc n b)
    | .UnaryOp op a _ => unOf op a (compE names sc n a)
    | .Compare a ops cs _ => if lastMarks ops cs = false then (compE names sc n a).bind fun i => (compEs names sc n cs).bind fun js => cmpOf ops i js else none
    | .BoolOp op es _ => (compEs names sc n es).bind (boolOf op)
    | .IfExp c a b _ => o3 .ite (compT names sc n c) (compE names sc n a) (compE names sc n b)
    | .Tuple es _ _ => if es.length ≤ lim then (compEs names sc n es).map .tup else none
    | .List es _ => if es.length ≤ lim then (compEs names sc n es).map .lst else none
    | .Subscript a b _ => match slcParts b with
      | some p => o3 .slc (compE names sc n a) (compO names sc n p.1) (compO names sc n p.2)
      | none => if notSlice b = true then o2 .idx (compE names sc n a) (compE names sc n b) else none
    | .Attribute a x _ => if notCall a = true then (compE names sc n a).bind fun i => (idxStr x cx.ws).map fun f => .attr i f else none
    | .Call f es kws pos => match callK f kws with
      | .name x => match hdOf cx sc x with
        | some .isi => (isiArgs es).bind fun p => if notStar p.1 = true then (compE names sc n p.1).bind fun i => (isiOf cx sc p.2).map fun t => .isi i t else none
        | some h => (compEs names sc n es).bind (headE h)
        | none => none
      | .meth a x ap => if notCall a = true ∧ es.length < 30 ∧ (ap.endLine == pos.line) = true then (compE names sc n a).bind fun i => (idxStr x cx.ws).bind fun m => (compEs names sc n es).map fun is => .meth i m is else none
      | .no => none
    | .ListComp elt gens scope _ => (oneGen gens).bind fun g => if compGood scope names g.iter = true then
        (compI names sc n g.iter).bind fun ki => (tgOf true (compNames scope) g.target).bind fun is => (compTs (compNames scope) (relS scope) n g.ifs).bind fun ics => (compE (compNames scope) (relS scope) n elt).map fun ie =>
          .comp (compNames scope).length (capOf names 0 (compNames scope)) is ki.1 ki.2 ics ie else none
    | _ => none
noncomputable def compO (names : List (Str × NameKind)) (sc : Scope) : Nat → Option PySem.Expr → Option Mine.E
  | 0, _ => none
  | n + 1, e => match e with
    | none => some .none
    | some e => compE names sc n e
noncomputable def compEs (names : List (Str × NameKind)) (sc : Scope) : Nat → List PySem.Expr → Option (List Mine.E)
  | 0, _ => none
  | n + 1, es => match es with
    | [] => some []
    | e :: es => if notStar e = true then (compE names sc n e).bind fun i => (compEs names sc n es).map fun is => i :: is else none
noncomputable def compTs (names : List (Str × NameKind)) (sc : Scope) : Nat → List PySem.Expr → Option (List Mine.E)
  | 0, _ => none
  | n + 1, es => match es with
    | [] => some []
    | e :: es => (compT names sc n e).bind fun i => (compTs names sc n es).map fun is => i :: is
noncomputable def compI (names : List (Str × NameKind)) (sc : Scope) : Nat → PySem.Expr → Option (ItK × Mine.E)
  | 0, _ => none
  | n + 1, e => match rangeArg cx sc e with
    | some a => (compE names sc n a).map fun i => (.range, i)
    | none => match revArg cx sc e with
      | some a => (compE names sc n a).map fun i => (.revRange, i)
      | none => (compE names sc n e).map fun i => (.seq, i)
noncomputable def compT (names : List (Str × NameKind)) (sc : Scope) : Nat → PySem.Expr → Option Mine.E
  | 0, _ => none
  | n + 1, e => match e with
    | .UnaryOp op a _ => if op = .Not then (compT names sc n a).map .not_ else none
    | .Compare a ops cs _ => if lastMarks ops cs = false then (compE names sc n a).bind fun i => (compEs names sc n cs).bind fun js => cmpOf ops i js else none
    | .BoolOp op es _ => (compTs names sc n es).bind (boolOf op)
    | e => if plainT e = true then compE names sc n e else none
end

noncomputable def isComp : PySem.Expr → Bool
  | .ListComp .. => true
  | _ => false
noncomputable def asgOf (names : List (Str × NameKind)) (e : PySem.Expr) (x : Str) (i : Option Mine.E) : Option Mine.S := match idxName x names with
  | some p => if (p.2 == .local || p.2 == .cell) && (isComp e || notComp e) then i.map fun i => .asg (.loc p.1) i else none
  | none => none
noncomputable def oneTg : List PySem.Expr → Option PySem.Expr
  | [t] => some t
  | _ => none
mutual
noncomputable def compS (names : List (Str × NameKind)) (sc : Scope) : Nat → Stmt → Option Mine.S
  | 0, _ => none
  | n + 1, st => match st with
    | .Pass _ => some .skip
    | .Expr e _ => if notComp e = true then (compE cx names sc n e).map .expr else none
    | .Return e _ => match e with
      | some e => (compE cx names sc n e).map .ret
      | none => some (.ret .none)
    | .If c a b _ => (compT cx names sc n c).bind fun i => (compSs names sc n a).bind fun j => (compSs names sc n b).map fun k => .if_ i j k
    | .Raise _ _ _ => some (.raise 0)
    | .While c b e _ => if e.isEmpty then (compT cx names sc n c).bind fun i => (compSs names sc n b).map fun j => .while_ i j else none
    | .For t iter b e _ => if e.isEmpty && foldedPlain iter then (tgOf false names t).bind fun is => (compI cx names sc n iter).bind fun ki => (compSs names sc n b).map fun j => .for_ is ki.1 ki.2 j else none
    | .Assign ts e _ => match oneTg ts with
      | none => none
      | some t => match t with
        | .Name x _ => asgOf names e x (compE cx names sc n e)
        | .Attribute o x _ => if notComp e = true then (compE cx names sc n e).bind fun i => (compE cx names sc n o).bind fun io => (idxStr x cx.ws).map fun f => .asg (.attr io f) i else none
        | .Subscript o ix _ => if notComp e = true then (compE cx names sc n e).bind fun i => (compE cx names sc n o).bind fun io => (compE cx names sc n ix).map fun ii => .asg (.idx io ii) i else none
        | .Tuple es _ _ => if notComp e = true ∧ notTuple e = true then (tgsOf false names es).bind fun is => if 2 ≤ is.length then (compE cx names sc n e).map fun i => .asg (.unp is) i else none else none
        | _ => none
    | _ => none
noncomputable def compSs (names : List (Str × NameKind)) (sc : Scope) : Nat → List Stmt → Option Mine.S
  | 0, _ => none
  | n + 1, sts => match sts with
    | [] => some .skip
    | st :: sts => (compS names sc n st).bind fun i => (compSs names sc n sts).map fun j => .seq i j
end

noncomputable def compFn (a : Addr) : Option Fn := match cx.K.lookup a with
  | some ⟨_, _, .func fd, _⟩ => match fd with
    | { name := _, qualname := qual, params := params, body := .stmts body, scope := scope, globals := gl, closure := [], defaults := .none, code := cdv, builtins := bn, .. } => match plainPs params with
      | some ps => if slotsOk (slotsOf ps scope) scope && paramsOk ps (slotsOf ps scope) scope && codeIn cx.K cdv qual && gl == mainGlobals && bn == builtinsNs then
          (compSs cx (slotsOf ps scope) scope 200 body).map fun b => ⟨ps.length, (slotsOf ps scope).length, b⟩ else none
      | none => none
    | _ => none
  | _ => none
end
end Mine

end
noncomputable section
namespace Mine
open PySem PySem.W PyProof.Rows

structure CxOk (cx : Cx) (G : Glb) : Prop where
  K : G.K = cx.K
  ws : G.ws = cx.ws
  fn : ∀ (f : Nat) (a : Addr), cx.fnL[f]? = some a → G.fnA f = some a
  cls : ∀ (c : Nat) (a : Addr), cx.clsL[c]? = some a → G.cls c = some a

section
variable {cx : Cx} {G : Glb} {g : Genv} {C N : Oracle} {r rn : Nat}

theorem isGl_ok {env : Env} {sc : Scope} (hs : env.scope = sc) {x : Str} (h : isGl sc x = true) : env.kindOf x = some .globalImplicit ∧ (x == ("__debug__" : Str)) = false := by
  simp only [isGl, Bool.and_eq_true, beq_iff_eq, Bool.not_eq_true'] at h
  refine ⟨?_, h.2⟩
  unfold Env.kindOf; rw [hs]; exact h.1

theorem ct_snd (X : CxOk cx G) {env : Env} {names : List (Str × NameKind)} {c : Const} {k : Nat} {p : Pos} {i : Mine.E} (h : ctOf cx c = some i) : Snd G g C N env names r (.Constant c k p) i := by
  cases c <;> simp only [ctOf] at h
  · cases h; exact snd_none k p
  · cases h; exact snd_bool _ k p
  · cases h; exact snd_int _ k p
  · cases h
  · cases h
  · rename_i s
    cases q : idxStr s cx.ws with
    | none => rw [q] at h; cases h
    | some j => rw [q] at h; cases h; exact snd_str (by rw [X.ws]; exact idxStr_ok q) k p
  · cases h
  · cases h

theorem nm_snd (X : CxOk cx G) (GK : GG G g) {env : Env} {names : List (Str × NameKind)} {sc : Scope} (O : EnvOk env names) (hs : env.scope = sc) {x : Str} {p : Pos} {i : Mine.E} (h : nmOf cx names sc x = some i) : Snd G g C N env names r (.Name x p) i := by
  unfold nmOf at h
  split at h
  · rename_i q hq
    cases h
    exact snd_loc O (idxName_ok (k := q.2) (by rw [hq])) p
  · split at h
    · rename_i hg
      split at h
      · rename_i hm
        cases h
        obtain ⟨h1, h2⟩ := isGl_ok hs hg
        exact snd_gint GK O h1 h2 (by rw [X.K]; exact hm)
      · cases h
    · cases h

theorem pow_snd {env : Env} {names : List (Str × NameKind)} {a b : PySem.Expr} {op : Operator} {pos : Pos} {i : Mine.E} (h : powOf a op b = some i) : Snd G g C N env names r (.BinOp a op b pos) i := by
  obtain ⟨rfl, h⟩ := if_some h
  obtain ⟨x, h1, h⟩ := bind_some h
  obtain ⟨y, h2, h⟩ := bind_some h
  obtain ⟨q, h⟩ := if_some h
  cases h
  obtain ⟨_, _, rfl⟩ := constI_some h1
  obtain ⟨_, _, rfl⟩ := constI_some h2
  exact snd_pow q.1 q.2.1 q.2.2

theorem tgs_ok {b : Bool} {names : List (Str × NameKind)} {es : List PySem.Expr} : ∀ {is : List Nat}, tgsOf b names es = some is → TgNames b names es is := by
  induction es with
  | nil => intro is h; cases h; exact .nil
  | cons e es ih =>
    intro is h
    obtain ⟨x, h1, h⟩ := bind_some (show (nmE e).bind _ = some is from h)
    obtain ⟨p, h2, h⟩ := bind_some h
    obtain ⟨js, h3, h⟩ := bind_some h
    obtain ⟨hk, h⟩ := if_some h
    cases h
    rw [nmE_some h1]
    refine .cons (idxName_ok (k := p.2) (by rw [h2])) ?_ (ih h3)
    simp only [Bool.or_eq_true, beq_iff_eq, Bool.and_eq_true, Bool.not_eq_true'] at hk
    exact hk
theorem tg_ok {b : Bool} {names : List (Str × NameKind)} {e : PySem.Expr} {is : List Nat} (h : tgOf b names e = some is) {env : Env} (O : EnvOk env names) : SndTgt G b env names e is := by
  change (match nmE e with | some _ => tgsOf b names [e] | none => (tupE e).bind fun t => (tgsOf b names t.1).bind fun is => if 2 ≤ is.length then some is else none) = some is at h
  cases hn : nmE e with
  | some x =>
    rw [hn] at h
    have := tgs_ok h
    cases this with
    | cons h1 h2 t => cases t; exact tgt_name O h1 h2
  | none =>
    rw [hn] at h
    obtain ⟨t, h1, h⟩ := bind_some h
    obtain ⟨js, h2, h⟩ := bind_some h
    obtain ⟨h3, h⟩ := if_some h
    cases h
    rw [tupE_some h1]
    exact tgt_tuple O (tgs_ok h2) h3

inductive SndL (G : Glb) (g : Genv) (C N : Oracle) (env : Env) (names : List (Str × NameKind)) (r : Nat) : List PySem.Expr → List Mine.E → Prop
  | nil : SndL G g C N env names r [] []
  | cons {e : PySem.Expr} {i : Mine.E} {es : List PySem.Expr} {is : List Mine.E} : notStar e = true → Snd G g C N env names r e i → SndL G g C N env names r es is → SndL G g C N env names r (e :: es) (i :: is)
theorem SndL.all {env : Env} {names : List (Str × NameKind)} {es : List PySem.Expr} {is : List Mine.E} (t : SndL G g C N env names r es is) : SndEs G g C N env names r es is ∧ es.all notStar = true ∧ is.length = es.length := by
  induction t with
  | nil => exact ⟨sndEs_nil, rfl, rfl⟩
  | cons h1 h2 t ih =>
    obtain ⟨e1, e2, e3⟩ := ih
    exact ⟨sndEs_cons h1 h2 e1, by simp only [List.all_cons, h1, e2]; rfl, congrArg Nat.succ e3⟩

theorem bool_snd {env : Env} {names : List (Str × NameKind)} {op : BoolOp} {pos : Pos} {es : List PySem.Expr} {is : List Mine.E} (t : SndL G g C N env names r es is) : ∀ {i : Mine.E}, boolOf op is = some i → Snd G g C N env names r (.BoolOp op es pos) i := by
  induction t with
  | nil => intro i h; cases h
  | cons h1 h2 t ih =>
    intro i h
    cases t with
    | nil => cases h; exact snd_one h2
    | cons h3 h4 t =>
      obtain ⟨j, e1, e2⟩ := map_some' (show (boolOf op (_ :: _)).map (joinB op _) = some _ from h)
      have ih := ih e1
      subst e2
      cases op with
      | And => exact snd_and h2 ih
      | Or => exact snd_or h2 ih
theorem boolT_snd {env : Env} {names : List (Str × NameKind)} {op : BoolOp} {pos : Pos} {es : List PySem.Expr} {is : List Mine.E} (t : SndTs G g C N env names r es is) : ∀ {i : Mine.E}, boolOf op is = some i → SndT G g C N env names r (.BoolOp op es pos) i := by
  induction t with
  | nil => intro i h; cases h
  | cons h2 t ih =>
    intro i h
    cases t with
    | nil =>
      cases h
      cases op with
      | And => exact sndT_one_and h2
      | Or => exact sndT_one_or h2
    | cons h4 t =>
      obtain ⟨j, e1, e2⟩ := map_some' (show (boolOf op (_ :: _)).map (joinB op _) = some _ from h)
      have ih := ih e1
      subst e2
      cases op with
      | And => exact sndT_and h2 ih
      | Or => exact sndT_or h2 ih

theorem cmp_snd (GO : GOk G) {env : Env} {names : List (Str × NameKind)} {a : PySem.Expr} {ops : List CmpOp} {cs : List PySem.Expr} {pos : Pos} {i k : Mine.E} {js : List Mine.E} (hm : lastMarks ops cs = false) (h1 : Snd G g C N env names r a i) (h2 : SndL G g C N env names r cs js) (h : cmpOf ops i js = some k) :
    Snd G g C N env names r (.Compare a ops cs pos) k ∧ SndT G g C N env names r (.Compare a ops cs pos) k := by
  change (match single ops with | some op => (single js).bind fun j => cmp1 op i j | none => (pair ops).bind fun o => (pair js).bind fun j => cmp2 o.1 o.2 i j.1 j.2) = some k at h
  cases ho : single ops with
  | some o1 =>
    rw [ho] at h
    obtain ⟨j, hj, h'⟩ := bind_some h
    have e1 := single_some ho
    have e2 := single_some hj
    subst e1; subst e2
    cases h2 with
    | cons _ q1 t =>
      cases t
      obtain ⟨o, e1, e2⟩ := map_some' h'
      subst e2
      exact ⟨snd_cmp GO e1 hm h1 q1, sndT_cmp GO e1 hm h1 q1⟩
  | none =>
    rw [ho] at h
    obtain ⟨o, h3, h'⟩ := bind_some h
    obtain ⟨j, h4, h''⟩ := bind_some h'
    have e1 := pair_some h3
    have e2 := pair_some h4
    subst e1; subst e2
    cases h2 with
    | cons _ q1 t =>
      cases t with
      | cons _ q2 t =>
        cases t
        obtain ⟨c1, e1, e2⟩ := bind_some h''
        obtain ⟨c2, e3, e4⟩ := map_some' e2
        subst e4
        exact ⟨snd_cmp2 GO e1 e3 hm h1 q1 q2, sndT_cmp2 GO e1 e3 hm h1 q1 q2⟩

theorem callF_name {f : PySem.Expr} {x : Str} (h : callF f = .name x) : ∃ p, f = .Name x p := by
  cases f with
  | Name y p => cases h; exact ⟨_, rfl⟩
  | _ => cases h
theorem callF_meth {f a : PySem.Expr} {x : Str} {ap : Pos} (h : callF f = .meth a x ap) : f = .Attribute a x ap := by
  cases f with
  | Attribute y z p => cases h; rfl
  | _ => cases h
theorem callK_name {f : PySem.Expr} {kws : List Keyword} {x : Str} (h : callK f kws = .name x) : (∃ p, f = .Name x p) ∧ kws = [] := by
  cases kws with
  | nil => exact ⟨callF_name h, rfl⟩
  | cons _ _ => cases h
theorem callK_meth {f a : PySem.Expr} {kws : List Keyword} {x : Str} {ap : Pos} (h : callK f kws = .meth a x ap) : f = .Attribute a x ap ∧ kws = [] := by
  cases kws with
  | nil => exact ⟨callF_meth h, rfl⟩
  | cons _ _ => cases h
theorem slc_ok {b : PySem.Expr} {p : Option PySem.Expr × Option PySem.Expr} (h : slcParts b = some p) : ∃ q, b = .Slice p.1 p.2 none q := by
  cases b with
  | Slice lo hi st q => cases st with
    | none => cases h; exact ⟨_, rfl⟩
    | some _ => cases h
  | _ => cases h
theorem oneGen_ok {gens : List Comprehension} {c : Comprehension} (h : oneGen gens = some c) : gens = [⟨c.target, c.iter, c.ifs, 0⟩] := by
  unfold oneGen at h
  split at h
  · obtain ⟨h1, h2⟩ := if_some h
    cases h2
    obtain ⟨a, b, d, e⟩ := c
    have : e = 0 := h1
    subst this; rfl
  · cases h

inductive HdR (cx : Cx) (sc : Scope) (x : Str) : Head → Prop
  | fn {f : Nat} {a : Addr} : isGl sc x = true → nsIn cx.K mainGlobals x = some (some (.ref a)) → cx.fnL[f]? = some a → HdR cx sc x (.fn f)
  | cls {c : Nat} {a : Addr} : isGl sc x = true → nsIn cx.K mainGlobals x = some (some (.ref a)) → cx.clsL[c]? = some a → HdR cx sc x (.cls c)
  | bi {b : Bi} : isGl sc x = true → nsIn cx.K mainGlobals x = some none → x = biN b → HdR cx sc x (.bi b)
  | isi : isGl sc x = true → nsIn cx.K mainGlobals x = some none → x = "isinstance" → HdR cx sc x .isi
theorem hd_ok {sc : Scope} {x : Str} {h : Head} (e : hdOf cx sc x = some h) : HdR cx sc x h := by
  unfold hdOf at e
  obtain ⟨hg, e⟩ := if_some e
  cases hns : nsIn cx.K mainGlobals x with
  | none => rw [hns] at e; cases e
  | some o =>
    rw [hns] at e
    cases o with
    | none =>
      dsimp only at e
      by_cases hi : (x == "isinstance") = true
      · rw [if_pos hi] at e; cases e; exact .isi hg hns (beq_iff_eq.mp hi)
      · rw [if_neg hi] at e
        obtain ⟨b, e1, e2⟩ := map_some' e
        subst e2
        exact .bi hg hns (biOf_ok e1)
    | some v =>
      cases v with
      | ref a =>
        dsimp only at e
        cases hf : idxAddr a cx.fnL with
        | some f => rw [hf] at e; cases e; exact .fn hg hns (idxAddr_ok hf)
        | none =>
          rw [hf] at e
          dsimp only at e
          cases hc : idxAddr a cx.clsL with
          | none => rw [hc] at e; cases e
          | some c => rw [hc] at e; cases e; exact .cls hg hns (idxAddr_ok hc)
      | _ => cases e

structure AllE (cx : Cx) (G : Glb) (g : Genv) (C N : Oracle) (r : Nat) (names : List (Str × NameKind)) (sc : Scope) (env : Env) (n : Nat) : Prop where
  e : ∀ e i, compE cx names sc n e = some i → Snd G g C N env names r e i
  o : ∀ e i, compO cx names sc n e = some i → SndO G g C N env names r e i
  es : ∀ es is, compEs cx names sc n es = some is → SndL G g C N env names r es is
  ts : ∀ es is, compTs cx names sc n es = some is → SndTs G g C N env names r es is
  it : ∀ e k, compI cx names sc n e = some k → SndIt G g C N env names r e k.1 k.2
  t : ∀ e i, compT cx names sc n e = some i → SndT G g C N env names r e i

theorem comp_parts {n : Nat} {names : List (Str × NameKind)} {sc : Scope} {elt : PySem.Expr} {gens : List Comprehension} {scope : Scope} {p : Pos} {i : Mine.E} (h : compE cx names sc (n + 1) (.ListComp elt gens scope p) = some i) :
    ∃ (c : Comprehension) (ki : ItK × Mine.E) (is : List Nat) (ics : List Mine.E) (ie : Mine.E), gens = [⟨c.target, c.iter, c.ifs, 0⟩] ∧ compOk scope names = true ∧ slotsOk (compNames scope) (relS scope) = true ∧ capOk (capOf names 0 (compNames scope)) (compNames scope) names = true ∧ foldedPlain c.iter = true ∧
      compI cx names sc n c.iter = some ki ∧ tgOf true (compNames scope) c.target = some is ∧ compTs cx (compNames scope) (relS scope) n c.ifs = some ics ∧ compE cx (compNames scope) (relS scope) n elt = some ie ∧
      i = .comp (compNames scope).length (capOf names 0 (compNames scope)) is ki.1 ki.2 ics ie := by
  obtain ⟨c, h1, h⟩ := bind_some (show (oneGen gens).bind _ = some i from h)
  obtain ⟨hg, h⟩ := if_some h
  obtain ⟨ki, h2, h⟩ := bind_some h
  obtain ⟨is, h3, h⟩ := bind_some h
  obtain ⟨ics, h4, h⟩ := bind_some h
  obtain ⟨ie, h5, h⟩ := map_some' h
  simp only [compGood, Bool.and_eq_true] at hg
  exact ⟨c, ki, is, ics, ie, oneGen_ok h1, hg.1.1.1, hg.1.1.2, hg.1.2, hg.2, h2, h3, h4, h5, h.symm⟩

theorem callE_ok (X : CxOk cx G) (GK : GG G g) (HC : CallOk G C r) (HN : CallOk G N rn) (hrn : r = rn + 1 ∨ ∀ f vs hp Q X, ¬ N f vs hp Q X) {names : List (Str × NameKind)} {sc : Scope} {env : Env} (O : EnvOk env names) (hs : env.scope = sc) {x : Str} {p pos : Pos} {es : List PySem.Expr} {is : List Mine.E} {h : Head} {i : Mine.E}
    (q : HdR cx sc x h) (l : SndL G g C N env names r es is) (e : headE h is = some i) : Snd G g C N env names r (.Call (.Name x p) es [] pos) i := by
  obtain ⟨e1, e2, _⟩ := l.all
  cases q with
  | fn a b c => cases e; exact snd_call GK O HC (isGl_ok hs a).1 (isGl_ok hs a).2 (X.fn _ _ c) (by rw [X.K]; exact b) e2 e1
  | cls a b c => cases e; exact snd_new GK O HN hrn (isGl_ok hs a).1 (isGl_ok hs a).2 (X.cls _ _ c) (by rw [X.K]; exact b) e2 e1
  | bi a b c => cases e; subst c; exact snd_bi GK O (isGl_ok hs a).1 (by rw [X.K]; exact b) e2 e1
  | isi a b c => cases e

theorem isiE_ok (X : CxOk cx G) (GK : GG G g) {names : List (Str × NameKind)} {sc : Scope} {env : Env} (O : EnvOk env names) (hs : env.scope = sc) {x : Str} {p pos : Pos} {a t : PySem.Expr} {i : Mine.E} {ty : Ty}
    (q : HdR cx sc x .isi) (hst : notStar a = true) (h1 : Snd G g C N env names r a i) (e : isiOf cx sc t = some ty) : Snd G g C N env names r (.Call (.Name x p) [a, t] [] pos) (.isi i ty) := by
  cases q with
  | isi g1 g2 g3 =>
    subst g3
    obtain ⟨y, e1, e⟩ := bind_some e
    obtain ⟨hy, e⟩ := if_some e
    rw [nmE_some e1]
    simp only [Bool.and_eq_true, beq_iff_eq] at hy
    obtain ⟨T, t1, et⟩ := tyOf_ok e
    rw [et] at hy ⊢
    exact snd_isi GK O t1 (isGl_ok hs g1).1 (by rw [X.K]; exact g2) (isGl_ok hs hy.1).1 (by rw [X.K]; exact hy.2) hst h1

theorem compE_ok (X : CxOk cx G) (GK : GG G g) (HC : CallOk G C r) (HN : CallOk G N rn) (hrn : r = rn + 1 ∨ ∀ f vs hp Q X, ¬ N f vs hp Q X) {n : Nat} (ih : ∀ names sc env, EnvOk env names → env.scope = sc → AllE cx G g C N r names sc env n)
    {names : List (Str × NameKind)} {sc : Scope} {env : Env} (O : EnvOk env names) (hs : env.scope = sc) (e : PySem.Expr) (i : Mine.E) (h : compE cx names sc (n + 1) e = some i) : Snd G g C N env names r e i := by
  have I := ih names sc env O hs
  cases e with
  | Constant c k p => exact ct_snd X h
  | Name x p => exact nm_snd X GK O hs h
  | BinOp a op b p =>
    change (match powOf a op b with | some i => some i | none => (opB op).bind fun o => o2 (.bin o) (compE cx names sc n a) (compE cx names sc n b)) = some i at h
    cases hp : powOf a op b with
    | some j => rw [hp] at h; cases h; exact pow_snd hp
    | none =>
      rw [hp] at h
      obtain ⟨o, h1, h⟩ := bind_some h
      obtain ⟨j, h2, h⟩ := bind_some h
      obtain ⟨k, h3, h⟩ := map_some' h
      subst h
      exact snd_bin GK.ok h1 (I.e _ _ h2) (I.e _ _ h3)
  | UnaryOp op a p =>
    change unOf op a (compE cx names sc n a) = some i at h
    cases op with
    | Not => obtain ⟨j, h1, h⟩ := map_some' (show (compE cx names sc n a).map .not_ = some i from h); subst h; exact snd_not (I.e _ _ h1)
    | USub =>
      obtain ⟨j, h1, h⟩ := map_some' (show (constI a).map (fun a => Mine.E.int (-a)) = some i from h)
      subst h
      obtain ⟨_, _, rfl⟩ := constI_some h1
      exact snd_neg
    | _ => cases h
  | Compare a ops cs p =>
    obtain ⟨hm, h⟩ := if_some (show (if lastMarks ops cs = false then _ else none) = some i from h)
    obtain ⟨j, h1, h⟩ := bind_some h
    obtain ⟨js, h2, h⟩ := bind_some h
    exact (cmp_snd GK.ok hm (I.e _ _ h1) (I.es _ _ h2) h).1
  | BoolOp op es p =>
    obtain ⟨is, h1, h⟩ := bind_some (show (compEs cx names sc n es).bind (boolOf op) = some i from h)
    exact bool_snd (I.es _ _ h1) h
  | IfExp c a b p =>
    obtain ⟨j, h1, h⟩ := bind_some (show o3 .ite (compT cx names sc n c) (compE cx names sc n a) (compE cx names sc n b) = some i from h)
    obtain ⟨k, h2, h⟩ := bind_some h
    obtain ⟨l, h3, h⟩ := map_some' h
    subst h
    exact snd_ite (I.t _ _ h1) (I.e _ _ h2) (I.e _ _ h3)
  | Tuple es k p =>
    obtain ⟨hl, h⟩ := if_some (show (if es.length ≤ lim then (compEs cx names sc n es).map .tup else none) = some i from h)
    obtain ⟨is, h1, h⟩ := map_some' h
    subst h
    exact snd_tup hl (I.es _ _ h1).all.1
  | List es p =>
    obtain ⟨hl, h⟩ := if_some (show (if es.length ≤ lim then (compEs cx names sc n es).map .lst else none) = some i from h)
    obtain ⟨is, h1, h⟩ := map_some' h
    subst h
    exact snd_lst hl (I.es _ _ h1).all.1
  | Subscript a b p =>
    change (match slcParts b with | some p => o3 .slc (compE cx names sc n a) (compO cx names sc n p.1) (compO cx names sc n p.2) | none => if notSlice b = true then o2 .idx (compE cx names sc n a) (compE cx names sc n b) else none) = some i at h
    cases hp : slcParts b with
    | some q =>
      rw [hp] at h
      obtain ⟨j, h1, h⟩ := bind_some h
      obtain ⟨k, h2, h⟩ := bind_some h
      obtain ⟨l, h3, h⟩ := map_some' h
      subst h
      obtain ⟨z, rfl⟩ := slc_ok hp
      exact snd_slc (I.e _ _ h1) (I.o _ _ h2) (I.o _ _ h3)
    | none =>
      rw [hp] at h
      obtain ⟨hn, h⟩ := if_some h
      obtain ⟨j, h1, h⟩ := bind_some h
      obtain ⟨k, h2, h⟩ := map_some' h
      subst h
      exact snd_idx GK.ok hn (I.e _ _ h1) (I.e _ _ h2)
  | Attribute a x p =>
    obtain ⟨hc, h⟩ := if_some (show (if notCall a = true then _ else none) = some i from h)
    obtain ⟨j, h1, h⟩ := bind_some h
    obtain ⟨f, h2, h⟩ := map_some' h
    subst h
    exact snd_attr GK (by rw [X.ws]; exact idxStr_ok h2) hc (I.e _ _ h1)
  | Call f es kws pos =>
    cases hk : callK f kws with
    | no =>
      change (match callK f kws with | .name x => _ | .meth a x ap => _ | .no => none) = some i at h
      rw [hk] at h; cases h
    | name x =>
      obtain ⟨⟨p, rfl⟩, rfl⟩ := callK_name hk
      change (match hdOf cx sc x with | some .isi => _ | some h => (compEs cx names sc n es).bind (headE h) | none => none) = some i at h
      cases hh : hdOf cx sc x with
      | none => rw [hh] at h; cases h
      | some hd =>
        rw [hh] at h
        have hr := hd_ok hh
        cases hd with
        | isi =>
          obtain ⟨q, h1, h⟩ := bind_some h
          obtain ⟨hst, h⟩ := if_some h
          obtain ⟨j, h2, h⟩ := bind_some h
          obtain ⟨ty, h3, h⟩ := map_some' h
          subst h
          have : es = [q.1, q.2] := by
            unfold isiArgs at h1
            split at h1
            · cases h1; rfl
            · cases h1
          subst this
          exact isiE_ok X GK O hs hr hst (I.e _ _ h2) h3
        | fn f =>
          obtain ⟨is, h1, h⟩ := bind_some h
          exact callE_ok X GK HC HN hrn O hs hr (I.es _ _ h1) h
        | cls c =>
          obtain ⟨is, h1, h⟩ := bind_some h
          exact callE_ok X GK HC HN hrn O hs hr (I.es _ _ h1) h
        | bi b =>
          obtain ⟨is, h1, h⟩ := bind_some h
          exact callE_ok X GK HC HN hrn O hs hr (I.es _ _ h1) h
    | meth a x ap =>
      obtain ⟨rfl, rfl⟩ := callK_meth hk
      obtain ⟨hc, h⟩ := if_some (show (if notCall a = true ∧ es.length < 30 ∧ (ap.endLine == pos.line) = true then _ else none) = some i from h)
      obtain ⟨j, h1, h⟩ := bind_some h
      obtain ⟨m, h2, h⟩ := bind_some h
      obtain ⟨is, h3, h⟩ := map_some' h
      subst h
      obtain ⟨e1, e2, e3⟩ := (I.es _ _ h3).all
      exact snd_meth GK HC (by rw [X.ws]; exact idxStr_ok h2) hc.1 e2 hc.2.1 hc.2.2 (I.e _ _ h1) e1 e3
  | ListComp elt gens scope p =>
    obtain ⟨c, ki, is, ics, ie, rfl, c1, c2, c3, c4, h1, h2, h3, h4, rfl⟩ := comp_parts h
    exact snd_comp O c1 c2 c3 rfl c4 (I.it _ _ h1) (fun cenv CO => tg_ok h2 CO) (fun cenv CO cs => (ih _ _ cenv CO cs).ts _ _ h3) (fun cenv CO cs => (ih _ _ cenv CO cs).e _ _ h4)
  | _ => cases h

theorem nameCall_ok {sc : Scope} {nm : Str} {e a : PySem.Expr} (h : nameCall cx sc nm e = some a) : ∃ p pos, e = .Call (.Name nm p) [a] [] pos ∧ isGl sc nm = true ∧ nsIn cx.K mainGlobals nm = some none := by
  obtain ⟨c, h1, h⟩ := bind_some h
  obtain ⟨b, h2, h⟩ := bind_some h
  rw [callA_some h1, single_some h2]
  cases hk : callK c.1 c.2.2.1 with
  | name x =>
    rw [hk] at h
    obtain ⟨hc, h⟩ := if_some h
    cases h
    simp only [isName', Bool.and_eq_true, beq_iff_eq] at hc
    obtain ⟨⟨p, e1⟩, e2⟩ := callK_name hk
    obtain ⟨⟨rfl, h2⟩, h3⟩ := hc
    rw [e1, e2]
    exact ⟨p, _, rfl, h2, h3⟩
  | _ => rw [hk] at h; cases h
theorem range_ok {sc : Scope} {e a : PySem.Expr} (h : rangeArg cx sc e = some a) : ∃ p pos, e = .Call (.Name "range" p) [a] [] pos ∧ isGl sc "range" = true ∧ nsIn cx.K mainGlobals "range" = some none ∧ notStar a = true := by
  obtain ⟨b, h1, h⟩ := bind_some h
  obtain ⟨h2, h⟩ := if_some h
  cases h
  obtain ⟨p, pos, e1, e2, e3⟩ := nameCall_ok h1
  exact ⟨p, pos, e1, e2, e3, h2⟩
theorem rev_ok {sc : Scope} {e a : PySem.Expr} (h : revArg cx sc e = some a) : ∃ p pos p2 pos2, e = .Call (.Name "reversed" p) [.Call (.Name "range" p2) [a] [] pos2] [] pos ∧ isGl sc "reversed" = true ∧ nsIn cx.K mainGlobals "reversed" = some none ∧ isGl sc "range" = true ∧ nsIn cx.K mainGlobals "range" = some none ∧ notStar a = true := by
  obtain ⟨b, h1, h'⟩ := bind_some h
  obtain ⟨p, pos, rfl, e2, e3⟩ := nameCall_ok h1
  obtain ⟨p2, pos2, rfl, h4, h5, h6⟩ := range_ok h'
  exact ⟨p, pos, p2, pos2, rfl, e2, e3, h4, h5, h6⟩

theorem compAll_ok (X : CxOk cx G) (GK : GG G g) (HC : CallOk G C r) (HN : CallOk G N rn) (hrn : r = rn + 1 ∨ ∀ f vs hp Q X, ¬ N f vs hp Q X) : ∀ (n : Nat) (names : List (Str × NameKind)) (sc : Scope) (env : Env), EnvOk env names → env.scope = sc → AllE cx G g C N r names sc env n := by
  intro n
  induction n with
  | zero => intro names sc env O hs; exact ⟨fun _ _ h => (by cases h), fun _ _ h => (by cases h), fun _ _ h => (by cases h), fun _ _ h => (by cases h), fun _ _ h => (by cases h), fun _ _ h => (by cases h)⟩
  | succ n ih =>
    intro names sc env O hs
    have I := ih names sc env O hs
    refine ⟨fun e i h => compE_ok X GK HC HN hrn ih O hs e i h, fun e i h => ?_, fun es is h => ?_, fun es is h => ?_, fun e k h => ?_, fun e i h => ?_⟩
    · cases e with
      | none => cases h; rfl
      | some e => exact I.e _ _ h
    · cases es with
      | nil => cases h; exact .nil
      | cons e es =>
        obtain ⟨hst, h⟩ := if_some (show (if notStar e = true then _ else none) = some is from h)
        obtain ⟨i, h1, h⟩ := bind_some h
        obtain ⟨js, h2, h⟩ := map_some' h
        subst h
        exact .cons hst (I.e _ _ h1) (I.es _ _ h2)
    · cases es with
      | nil => cases h; exact .nil
      | cons e es =>
        obtain ⟨i, h1, h⟩ := bind_some (show (compT cx names sc n e).bind _ = some is from h)
        obtain ⟨js, h2, h⟩ := map_some' h
        subst h
        exact .cons (I.t _ _ h1) (I.ts _ _ h2)
    · change (match rangeArg cx sc e with | some a => (compE cx names sc n a).map fun i => (ItK.range, i) | none => match revArg cx sc e with | some a => (compE cx names sc n a).map fun i => (ItK.revRange, i) | none => (compE cx names sc n e).map fun i => (ItK.seq, i)) = some k at h
      cases hr : rangeArg cx sc e with
      | some a =>
        rw [hr] at h
        obtain ⟨i, h1, h⟩ := map_some' h
        subst h
        obtain ⟨p, pos, rfl, r1, r2, r3⟩ := range_ok hr
        exact sndIt_range GK O (isGl_ok hs r1).1 (by rw [X.K]; exact r2) r3 (I.e _ _ h1)
      | none =>
        rw [hr] at h
        cases hv : revArg cx sc e with
        | some a =>
          rw [hv] at h
          obtain ⟨i, h1, h⟩ := map_some' h
          subst h
          obtain ⟨p, pos, p2, pos2, rfl, r1, r2, r3, r4, r5⟩ := rev_ok hv
          exact sndIt_rev GK O (isGl_ok hs r1).1 (by rw [X.K]; exact r2) (isGl_ok hs r3).1 (by rw [X.K]; exact r4) r5 (I.e _ _ h1)
        | none =>
          rw [hv] at h
          obtain ⟨i, h1, h⟩ := map_some' h
          subst h
          exact sndIt_seq (I.e _ _ h1)
    · cases e with
      | UnaryOp op a p =>
        obtain ⟨ho, h⟩ := if_some (show (if op = .Not then (compT cx names sc n a).map .not_ else none) = some i from h)
        obtain ⟨j, h1, h⟩ := map_some' h
        subst h; subst ho
        exact sndT_not (I.t _ _ h1)
      | Compare a ops cs p =>
        obtain ⟨hm, h⟩ := if_some (show (if lastMarks ops cs = false then _ else none) = some i from h)
        obtain ⟨j, h1, h⟩ := bind_some h
        obtain ⟨js, h2, h⟩ := bind_some h
        exact (cmp_snd GK.ok hm (I.e _ _ h1) (I.es _ _ h2) h).2
      | BoolOp op es p =>
        obtain ⟨is, h1, h⟩ := bind_some (show (compTs cx names sc n es).bind (boolOf op) = some i from h)
        exact boolT_snd (I.ts _ _ h1) h
      | Call f a k p => exact sndT_plain (fun _ => rfl) (I.e _ _ h)
      | Name x p => exact sndT_plain (fun _ => rfl) (I.e _ _ h)
      | Constant c k p => exact sndT_plain (fun _ => rfl) (I.e _ _ h)
      | Attribute a x p => exact sndT_plain (fun _ => rfl) (I.e _ _ h)
      | Subscript a x p => exact sndT_plain (fun _ => rfl) (I.e _ _ h)
      | _ => cases h
end
end Mine

end
noncomputable section
namespace Mine
open PySem PySem.W PyProof.Rows

section
variable {cx : Cx} {G : Glb} {g : Genv} {C N : Oracle} {r rn : Nat}

theorem comp_asg {n : Nat} (ih : ∀ names sc env, EnvOk env names → env.scope = sc → AllE cx G g C N r names sc env n) {names : List (Str × NameKind)} {sc : Scope} {env : Env} (O : EnvOk env names) (hs : env.scope = sc)
    {elt : PySem.Expr} {gens : List Comprehension} {scope : Scope} {pos p spos : Pos} {x : Str} {k : NameKind} {j : Nat} {i : Mine.E} (hx : names[j]? = some (x, k)) (hk : k = .local ∨ k = .cell)
    (h : compE cx names sc (n + 1) (.ListComp elt gens scope pos) = some i) : SndS G g C N env names r (.Assign [.Name x p] (.ListComp elt gens scope pos) spos) (.asg (.loc j) i) := by
  have I := ih names sc env O hs
  obtain ⟨c, ki, is, ics, ie, rfl, c1, c2, c3, c4, h1, h2, h3, h4, rfl⟩ := comp_parts h
  exact sndS_asgC O hx hk c1 c2 c3 rfl c4 (I.it _ _ h1) (fun cenv CO => tg_ok h2 CO) (fun cenv CO cs => (ih _ _ cenv CO cs).ts _ _ h3) (fun cenv CO cs => (ih _ _ cenv CO cs).e _ _ h4)

structure AllS (cx : Cx) (G : Glb) (g : Genv) (C N : Oracle) (r : Nat) (names : List (Str × NameKind)) (sc : Scope) (env : Env) (n : Nat) : Prop where
  s : ∀ st i, compS cx names sc n st = some i → SndS G g C N env names r st i
  ss : ∀ sts i, compSs cx names sc n sts = some i → SndSs G g C N env names r sts i

theorem oneTg_ok {ts : List PySem.Expr} {t : PySem.Expr} (h : oneTg ts = some t) : ts = [t] := by
  unfold oneTg at h
  split at h
  · cases h; rfl
  · cases h

theorem asg_ok (X : CxOk cx G) (GK : GG G g) (HC : CallOk G C r) (HN : CallOk G N rn) (hrn : r = rn + 1 ∨ ∀ f vs hp Q X, ¬ N f vs hp Q X) {names : List (Str × NameKind)} {sc : Scope} {env : Env} (O : EnvOk env names) (hs : env.scope = sc)
    {n : Nat} {x : Str} {p pos : Pos} {e : PySem.Expr} {i : Mine.S} (h : asgOf names e x (compE cx names sc n e) = some i) : SndS G g C N env names r (.Assign [.Name x p] e pos) i := by
  unfold asgOf at h
  cases hx : idxName x names with
  | none => rw [hx] at h; cases h
  | some q =>
    rw [hx] at h
    obtain ⟨hc, h⟩ := if_some h
    obtain ⟨j, h1, h⟩ := map_some' h
    subst h
    simp only [Bool.and_eq_true, Bool.or_eq_true, beq_iff_eq] at hc
    have hx' := idxName_ok (k := q.2) (i := q.1) (by rw [hx])
    obtain ⟨hk, hc⟩ := hc
    cases hn : notComp e with
    | true => exact sndS_asgL O hx' hk hn ((compAll_ok X GK HC HN hrn n names sc env O hs).e _ _ h1)
    | false =>
      rw [hn] at hc
      have hc : isComp e = true := by simpa using hc
      cases e <;> simp only [isComp, Bool.false_eq_true] at hc
      cases n with
      | zero => cases h1
      | succ n => exact comp_asg (compAll_ok X GK HC HN hrn n) O hs hx' hk h1

theorem compS_ok (X : CxOk cx G) (GK : GG G g) (HC : CallOk G C r) (HN : CallOk G N rn) (hrn : r = rn + 1 ∨ ∀ f vs hp Q X, ¬ N f vs hp Q X) {names : List (Str × NameKind)} {sc : Scope} {env : Env} (O : EnvOk env names) (hs : env.scope = sc) :
    ∀ (n : Nat), AllS cx G g C N r names sc env n := by
  have AE := compAll_ok X GK HC HN hrn
  intro n
  induction n with
  | zero => exact ⟨fun _ _ h => (by cases h), fun _ _ h => (by cases h)⟩
  | succ n ih =>
    have I := AE n names sc env O hs
    refine ⟨fun st i h => ?_, fun sts i h => ?_⟩
    · cases st with
      | Pass p => cases h; exact sndS_pass _
      | Expr e p =>
        obtain ⟨hc, h⟩ := if_some (show (if notComp e = true then (compE cx names sc n e).map .expr else none) = some i from h)
        obtain ⟨j, h1, h⟩ := map_some' h
        subst h
        exact sndS_expr O hc (I.e _ _ h1)
      | Return e p =>
        cases e with
        | none => cases h; exact sndS_ret0
        | some e =>
          obtain ⟨j, h1, h⟩ := map_some' (show (compE cx names sc n e).map .ret = some i from h)
          subst h
          exact sndS_ret (I.e _ _ h1)
      | If c a b p =>
        obtain ⟨j, h1, h⟩ := bind_some (show (compT cx names sc n c).bind _ = some i from h)
        obtain ⟨k, h2, h⟩ := bind_some h
        obtain ⟨l, h3, h⟩ := map_some' h
        subst h
        exact sndS_if (I.t _ _ h1) (ih.ss _ _ h2) (ih.ss _ _ h3)
      | Raise a b p => cases h; exact sndS_raise
      | While c b e p =>
        obtain ⟨hc, h⟩ := if_some (show (if e.isEmpty = true then _ else none) = some i from h)
        obtain ⟨j, h1, h⟩ := bind_some h
        obtain ⟨k, h2, h⟩ := map_some' h
        subst h
        cases e with
        | nil => exact sndS_while (I.t _ _ h1) (ih.ss _ _ h2)
        | cons _ _ => cases hc
      | For t iter b e p =>
        obtain ⟨hc, h⟩ := if_some (show (if (e.isEmpty && foldedPlain iter) = true then _ else none) = some i from h)
        obtain ⟨is, h1, h⟩ := bind_some h
        obtain ⟨ki, h2, h⟩ := bind_some h
        obtain ⟨j, h3, h⟩ := map_some' h
        subst h
        rw [Bool.and_eq_true] at hc
        cases e with
        | nil => exact sndS_for hc.2 (I.it _ _ h2) (tg_ok h1 O) (ih.ss _ _ h3)
        | cons _ _ => cases hc.1
      | Assign ts e p =>
        cases ht : oneTg ts with
        | none =>
          change (match oneTg ts with | none => none | some t => _) = some i at h
          rw [ht] at h; cases h
        | some t =>
          have := oneTg_ok ht
          subst this
          cases t with
          | Name x q => exact asg_ok X GK HC HN hrn O hs (show asgOf names e x (compE cx names sc n e) = some i from h)
          | Attribute o x q =>
            obtain ⟨hc, h⟩ := if_some (show (if notComp e = true then _ else none) = some i from h)
            obtain ⟨j, h1, h⟩ := bind_some h
            obtain ⟨k, h2, h⟩ := bind_some h
            obtain ⟨f, h3, h⟩ := map_some' h
            subst h
            exact sndS_asgA GK (by rw [X.ws]; exact idxStr_ok h3) hc (I.e _ _ h1) (I.e _ _ h2)
          | Subscript o ix q =>
            obtain ⟨hc, h⟩ := if_some (show (if notComp e = true then _ else none) = some i from h)
            obtain ⟨j, h1, h⟩ := bind_some h
            obtain ⟨k, h2, h⟩ := bind_some h
            obtain ⟨l, h3, h⟩ := map_some' h
            subst h
            exact sndS_asgI GK.ok hc (I.e _ _ h1) (I.e _ _ h2) (I.e _ _ h3)
          | Tuple es k q =>
            obtain ⟨hc, h⟩ := if_some (show (if notComp e = true ∧ notTuple e = true then _ else none) = some i from h)
            obtain ⟨is, h1, h⟩ := bind_some h
            obtain ⟨hl, h⟩ := if_some h
            obtain ⟨j, h2, h⟩ := map_some' h
            subst h
            exact sndS_asgU O (tgs_ok h1) hl hc.1 hc.2 (I.e _ _ h2)
          | _ => cases h
      | _ => cases h
    · cases sts with
      | nil => cases h; exact sndSs_nil
      | cons st sts =>
        obtain ⟨j, h1, h⟩ := bind_some (show (compS cx names sc n st).bind _ = some i from h)
        obtain ⟨k, h2, h⟩ := map_some' h
        subst h
        exact sndSs_cons (ih.s _ _ h1) (ih.ss _ _ h2)

theorem step_ok (X : CxOk cx G) (GK : GG G g) (hfn : ∀ f fn, g.fn f = some fn → ∃ a, cx.fnL[f]? = some a ∧ compFn cx a = some fn) (HC : CallOk G C r) (HN : CallOk G N rn) (hrn : r = rn + 1 ∨ ∀ f vs hp Q X, ¬ N f vs hp Q X) : CallOk G (stepC g C N) (r + 1) := by
  intro f a vs hp Q X' A s am vals hf hC rm sz hr sm rv
  cases hg : g.fn f with
  | none => unfold stepC at hC; rw [hg] at hC; exact hC.elim
  | some fn =>
    obtain ⟨a', h1, h2⟩ := hfn f fn hg
    have := X.fn _ _ h1
    rw [hf] at this; cases this
    unfold compFn at h2
    split at h2
    · rename_i oc od fd osl hl
      split at h2
      · rename_i name qual params body scope gl kV doc pm an cdv ct bn
        split at h2
        · rename_i ps hps
          split at h2
          · rename_i hok
            simp only [Bool.and_eq_true, beq_iff_eq] at hok
            obtain ⟨⟨⟨⟨k1, k2⟩, k3⟩, k4⟩, k5⟩ := hok
            subst k4; subst k5
            cases q : compSs cx (slotsOf ps scope) scope 200 body with
            | none => rw [q] at h2; cases h2
            | some b =>
              rw [q] at h2
              cases h2
              exact call_entry GK (f := f) (fn := ⟨ps.length, (slotsOf ps scope).length, b⟩) (by rw [X.K]; exact hl) (by rw [X.K]; exact k3) hps k1 k2 hg rfl rfl (fun env O hsc => (compS_ok X GK HC HN hrn O hsc 200).ss _ _ q) hC rm sz hr sm rv
          · cases h2
        · cases h2
      · cases h2
    · cases h2

theorem bot_ok {r : Nat} : CallOk G bot r := fun _ _ _ _ _ _ _ _ _ _ _ h _ => h.elim
theorem call_ok (X : CxOk cx G) (GK : GG G g) (hfn : ∀ f fn, g.fn f = some fn → ∃ a, cx.fnL[f]? = some a ∧ compFn cx a = some fn) : ∀ r, CallOk G (callWp g r) r
  | 0 => bot_ok
  | 1 => step_ok X GK hfn (r := 0) bot_ok (rn := 0) bot_ok (.inr fun _ _ _ _ _ h => h)
  | r + 2 => step_ok X GK hfn (r := r + 1) (call_ok X GK hfn (r + 1)) (rn := r) (call_ok X GK hfn r) (.inl rfl)
end
end Mine

end
noncomputable section
namespace Mine
open PySem PySem.W PyProof.Rows

structure Law where
  fns : List Fn
  ws : List Str
  fnL : List Addr
  clsL : List Addr
  ats : List (List Nat)
  meths : List (List (Nat × Nat))
  inits : List (Option Nat)

noncomputable def Law.atB (L : Law) (c f : Nat) : Bool := match L.ats[c]? with
  | some l => l.contains f
  | none => false
noncomputable def Law.g (L : Law) : Genv where
  fn := fun f => L.fns[f]?
  meth := fun c m => (L.meths[c]?).bind fun l => l.lookup m
  init := fun c => (L.inits[c]?).join
  glob := fun _ => .none
  sub := fun _ _ => false
  at_ := L.atB
noncomputable def Law.cx (L : Law) (K : Frag) : Cx := ⟨K, L.ws, L.fnL, L.clsL⟩

noncomputable def findIs (K : Frag) (C : Addr) (x : Str) (v : Option Value) : Bool := findIn K (.ref C) x == some v
noncomputable def attrOk (L : Law) (K : Frag) (C : Addr) (f : Nat) : Bool := match L.ws[f]? with
  | some x => findIs K C x none
  | none => false
noncomputable def methOk (L : Law) (K : Frag) (c : Nat) (C : Addr) (p : Nat × Nat) : Bool := !(L.atB c p.1) && match L.ws[p.1]?, L.fnL[p.2]? with
  | some x, some fa => findIs K C x (some (.ref fa)) && isFn K (.ref fa)
  | _, _ => false
noncomputable def initOk (L : Law) (K : Frag) (C : Addr) (f : Nat) : Bool := match L.fnL[f]? with
  | some fa => findIs K C "__init__" (some (.ref fa)) && isFn K (.ref fa)
  | none => false
noncomputable def clsAll (L : Law) (K : Frag) (c : Nat) : Bool := match L.clsL[c]? with
  | some C => clsOk K C && (match L.ats[c]? with | some l => l.all (attrOk L K C) | none => true) && (match L.meths[c]? with | some l => l.all (methOk L K c C) | none => true) && (match L.inits[c]? with | some (some f) => initOk L K C f | _ => true)
  | none => true
noncomputable def ggOk (L : Law) (K : Frag) : Bool := L.fnL.all (fun a => keepIn K (.ref a)) && (List.range L.clsL.length).all (clsAll L K) && decide (L.inits.length ≤ L.clsL.length) && decide L.ws.Nodup && L.ws.all PyData.strOk && L.ws[mAppend]? == some "append" && L.ws[mPop]? == some "pop"

theorem mem_of_lookupN {α : Type} : ∀ {l : List (Nat × α)} {n : Nat} {c : α}, l.lookup n = some c → (n, c) ∈ l
  | (k, v) :: r, n, c, h => by
    rw [List.lookup_cons] at h
    cases hb : n == k with
    | true => rw [hb] at h; cases h; rw [beq_iff_eq.mp hb]; exact List.mem_cons_self
    | false => rw [hb] at h; exact List.mem_cons_of_mem _ (mem_of_lookupN h)

section
variable {L : Law} {prog : Program} {w : World} {K : Frag} {base : Heap} {gens : Array GenState} {os : OsState}

noncomputable def Law.G (L : Law) (prog : Program) (w : World) (K : Frag) (base : Heap) (gens : Array GenState) (os : OsState) : Glb :=
  { prog, w, K, base, ws := L.ws, cls := fun c => L.clsL[c]?, fnA := fun f => L.fnL[f]?, at_ := L.atB, gens, os }

theorem gg_of (h : ggOk L K = true) (x : K.In base) (nl : base.NoLimit) (ns : base.NoSeer) (tr : prog.given.tree = none) (hg : ∃ mg, base.Ns mainGlobals mg) (hb : ∃ mb, base.Ns builtinsNs mb ∧ ∀ x : Str, x ≠ "__name__" → mb x = bootBuiltins x) : GG (L.G prog w K base gens os) L.g := by
  simp only [ggOk, Bool.and_eq_true, List.all_eq_true, decide_eq_true_eq, beq_iff_eq] at h
  obtain ⟨⟨⟨⟨⟨⟨h1, h2⟩, h3⟩, h4⟩, h5⟩, h6⟩, h7⟩ := h
  have cl : ∀ (c : Nat) (Ca : Addr), L.clsL[c]? = some Ca → clsOk K Ca = true ∧ (∀ l, L.ats[c]? = some l → l.all (attrOk L K Ca) = true) ∧ (∀ l, L.meths[c]? = some l → l.all (methOk L K c Ca) = true) ∧ (∀ f, L.inits[c]? = some (some f) → initOk L K Ca f = true) := fun c Ca e => by
    have q := h2 c (List.mem_range.mpr (by obtain ⟨z, _⟩ := List.getElem?_eq_some_iff.mp e; exact z))
    unfold clsAll at q
    rw [e] at q
    simp only [Bool.and_eq_true] at q
    obtain ⟨⟨⟨q1, q2⟩, q3⟩, q4⟩ := q
    refine ⟨q1, fun l el => ?_, fun l el => ?_, fun f ef => ?_⟩
    · rw [el] at q2; exact q2
    · rw [el] at q3; exact q3
    · rw [ef] at q4; exact q4
  refine ⟨⟨x, h4, h5, nl, ns, tr⟩, rfl, hg, hb, ?_, ?_, ?_, ?_, ?_, h6, h7⟩
  · intro f a e
    exact h1 a (List.mem_of_getElem? e)
  · intro c Ca e; exact (cl c Ca e).1
  · intro c Ca f y e ea ew
    have ea' : L.atB c f = true := ea
    unfold Law.atB at ea'
    split at ea'
    · rename_i l el
      have q := List.all_eq_true.mp ((cl c Ca e).2.1 l el) f (List.contains_iff_mem.mp ea')
      unfold attrOk at q
      have ew' : L.ws[f]? = some y := ew
      rw [ew'] at q
      exact beq_iff_eq.mp q
    · cases ea'
  · intro c Ca m y fid e em ew
    have em' : ((L.meths[c]?).bind fun l => l.lookup m) = some fid := em
    cases el : L.meths[c]? with
    | none => rw [el] at em'; cases em'
    | some l =>
      rw [el] at em'
      have q := List.all_eq_true.mp ((cl c Ca e).2.2.1 l el) _ (mem_of_lookupN em')
      unfold methOk at q
      have ew' : L.ws[m]? = some y := ew
      rw [Bool.and_eq_true] at q
      obtain ⟨q1, q2⟩ := q
      dsimp only at q1 q2
      rw [ew'] at q2
      cases ef : L.fnL[fid]? with
      | none => rw [ef] at q2; cases q2
      | some fa =>
        rw [ef] at q2
        simp only [Bool.and_eq_true] at q2
        exact ⟨(by simpa using q1 : L.atB c m = false), fa, ef, beq_iff_eq.mp q2.1, q2.2⟩
  · intro c fid e
    have e' : (L.inits[c]?).join = some fid := e
    have e2 : L.inits[c]? = some (some fid) := by
      cases q : L.inits[c]? with
      | none => rw [q] at e'; cases e'
      | some o => rw [q] at e'; have : o = some fid := e'; rw [this]
    have cb : c < L.clsL.length := by obtain ⟨z, _⟩ := List.getElem?_eq_some_iff.mp e2; (first | lia | omega)
    have q := (cl c _ (List.getElem?_eq_getElem cb)).2.2.2 fid e2
    unfold initOk at q
    cases ef : L.fnL[fid]? with
    | none => rw [ef] at q; cases q
    | some fa =>
      rw [ef] at q
      simp only [Bool.and_eq_true] at q
      exact ⟨_, fa, List.getElem?_eq_getElem cb, ef, beq_iff_eq.mp q.1, q.2⟩

theorem fns_of (h : L.fnL.map (compFn (L.cx K)) = L.fns.map some) : ∀ f fn, L.g.fn f = some fn → ∃ a, (L.cx K).fnL[f]? = some a ∧ compFn (L.cx K) a = some fn := fun f fn e => by
  have e' : L.fns[f]? = some fn := e
  have q := congrArg (·[f]?) h
  simp only [List.getElem?_map, e', Option.map_some] at q
  cases ea : L.fnL[f]? with
  | none => rw [ea] at q; cases q
  | some a => rw [ea] at q; exact ⟨a, ea, Option.some.inj q⟩

theorem law_run {f : Nat} {fa scr : Addr} {vs : List Value} {ns : List Int} {s : Shared} (h : ggOk L K = true) (hf : L.fnL.map (compFn (L.cx K)) = L.fns.map some) (x : K.In s.heap) (nl : s.heap.NoLimit) (nse : s.heap.NoSeer) (tr : prog.given.tree = none)
    (hg : ∃ mg, s.heap.Ns mainGlobals mg) (hb : ∃ mb, s.heap.Ns builtinsNs mb ∧ ∀ x : Str, x ≠ "__name__" → mb x = bootBuiltins x) (hfa : L.fnL[f]? = some fa) (hl : s.heap.IsList scr vs.toArray) (hi : IntsAre vs ns) (hn : ns.length ≤ 63)
    (spec : callWp L.g 598 f [.ref 0] [.flist (ns.map .int)] (fun v _ => v = .bool true) (fun _ _ => False)) :
    codeAny (model prog w) callerA (.call (.ref fa) ⟨[.ref scr], []⟩) (fun res s' => match res with
      | .ok (.ret v) => v = .bool true ∧ (∀ b o, s.heap.get? b = some o → s'.heap.get? b = some o) ∧ s'.os = s.os ∧ s'.gens = s.gens
      | _ => False) s := by
  have GK := gg_of (w := w) (gens := s.gens) (os := s.os) h x nl nse tr hg hb
  have CX : CxOk (L.cx K) (L.G prog w K s.heap s.gens s.os) := ⟨rfl, rfl, fun _ _ e => e, fun _ _ e => e⟩
  have rvs : RVs L.ws [(scr, scr)] s.heap (ns.map .int) vs := by
    clear spec hl hn
    induction hi with
    | nil => exact .nil
    | cons n t r ih => exact .cons (.int n t) ih
  have lv : ∃ o, s.heap.get? scr = some o := by obtain ⟨o, ho, _⟩ := hl; exact ⟨o, ho⟩
  obtain ⟨o, ho⟩ := lv
  refine codeAny_mono (call_ok CX GK (fns_of hf) 598 f fa [.ref 0] [.flist (ns.map .int)] (fun v _ => v = .bool true) (fun _ _ => False) callerA s [(scr, scr)] [.ref scr] hfa spec ⟨by decide +kernel, by decide +kernel, rfl, ⟨[], rfl⟩, fun _ _ z => z⟩ (Nat.le_refl _) ⟨rfl, by simp [AM.muts], ?_, fun _ _ e => e⟩ ⟨rfl, rfl⟩ (.cons (.ref (a := 0) (p := (scr, scr)) rfl) .nil)) fun res s' z => ?_
  · intro i ob p h1 h2
    cases i with
    | succ i => cases h1
    | zero =>
      cases h1; cases h2
      exact .flist hl rvs (by simp only [List.length_map, lim]; (first | lia | omega))
  · rcases res with e | (_ | _ | _ | v)
    · exact z.no
    · exact z.elim
    · exact z.elim
    · exact z.elim
    · obtain ⟨u, hp', am', z1, z2, z3, z4, z5⟩ := z
      subst z1
      cases z2
      exact ⟨rfl, z3.base, z5.os, z5.gens⟩
end
end Mine

end
noncomputable section
namespace Mine
open PySem PySem.W PyProof.Rows

noncomputable def fragOf (as : List Addr) (h : Heap) : Frag := as.filterMap fun a => (h.get? a).map fun o => (a, o)
theorem fragOf_in (h : Heap) : ∀ as : List Addr, (fragOf as h).In h
  | [] => fun a o e => by cases e
  | b :: as => fun a o e => by
    unfold fragOf at e
    rw [List.filterMap_cons] at e
    cases q : h.get? b with
    | none => rw [q] at e; exact fragOf_in h as a o e
    | some ob =>
      rw [q] at e
      dsimp only [Option.map_some] at e
      rw [List.lookup_cons] at e
      cases hb : a == b with
      | true => rw [hb] at e; cases e; rw [beq_iff_eq.mp hb]; exact q
      | false => rw [hb] at e; exact fragOf_in h as a o e

noncomputable def LawIn (L : Law) (fa : Addr) (h : Heap) : Prop := ∃ K : Frag, K.In h ∧ ggOk L K = true ∧ L.fnL.map (compFn (L.cx K)) = L.fns.map some ∧ nsIn K mainGlobals "law" = some (some (.ref fa))
noncomputable def obsOf (L : Law) (K : Frag) : Bool × List (Option Fn) × Option (Option Value) := (ggOk L K, L.fnL.map (compFn (L.cx K)), nsIn K mainGlobals "law")
noncomputable def valOf (L : Law) (fa : Addr) : Bool × List (Option Fn) × Option (Option Value) := (true, L.fns.map some, some (some (.ref fa)))
theorem lawIn_of {L : Law} {as : List Addr} {fa : Addr} {h : Heap} (e : obsOf L (fragOf as h) = valOf L fa) : LawIn L fa h :=
  ⟨fragOf as h, fragOf_in h as, congrArg (·.1) e, congrArg (·.2.1) e, congrArg (·.2.2) e⟩
noncomputable def lawHook (L : Law) (as : List Addr) (fa : Addr) : Hook :=
  ⟨Bool × List (Option Fn) × Option (Option Value), fun s => obsOf L (fragOf as s.heap), fun _ => valOf L fa, fun _ h => LawIn L fa h, fun _ _ e => lawIn_of e, fun _ _ _ ⟨K, x, y⟩ k => ⟨K, Frag.In.keeps x k, y⟩⟩

noncomputable def isName : Stmt → Bool
  | .Assign ts _ _ => ts.any fun t => match t with
    | .Name x _ => x == "__name__"
    | _ => false
  | _ => false

noncomputable def viewOf (p : Program) : Program := { p with main := { p.main with body := p.main.body.filter fun x => !isName x } }
abbrev xtOf (p : Program) (r : RowW) (s : Shared) : Bool := xlAt (viewOf p) [] s && recOk (RowW.records r) s

theorem row_holds {r : OpenRow} {L : Law} {as : List Addr} {fa : Addr} {N : Nat} (left : LeftO r.prog (viewOf r.prog) [] (xtOf r.prog r.toRowW) (lawHook L as fa).obs (lawHook L as fa).val N)
    (hd : (defOf (viewOf r.prog) r.name).map (fun x => (x.1.name, some (x.1.params, x.1.body, x.1.scope), kwWritten? x.1.params.kwonlyargs x.1.params.kw_defaults, x.2)) = some (("law" : Str), r.prog.theDef r.name, some [], []))
    (hwr : (!r.writes || r.records.isEmpty) = true) (k1 : r.wellSaid = true) (ok : (chainsOk (viewOf r.prog) && opensWell r.prog && (frees r.toRowW && r.within.isEmpty)) = true) (hb : r.prog.bare) (hw : r.toRowW.promised)
    (call : ∀ d : DefRec, d.name = ("law" : Str) → WalkO (viewOf r.prog) [] (XL (viewOf r.prog) []) (fun _ h => LawIn L fa h) r.toRowW d [] fun f vs => PySem.call f vs) : r.Holds := by
  obtain ⟨⟨d, kwd⟩, e1, e2⟩ := Option.map_eq_some_iff.mp hd
  have z1 : d.name = ("law" : Str) := congrArg (·.1) e2
  have z2 : some (d.params, d.body, d.scope) = r.prog.theDef r.name := congrArg (·.2.1) e2
  have z3 : kwWritten? d.params.kwonlyargs d.params.kw_defaults = some [] := congrArg (·.2.2.1) e2
  have z4 : kwd = [] := congrArg (·.2.2.2) e2
  subst z4
  exact PySem.W.holds_open left (Hook.of (lawHook L as fa)) (Hook.keeps (lawHook L as fa)) (fun s e => xl_of s (Bool.and_eq_true_iff.mp e).1) XL.keeps e1 z2.symm z3 (fun s e => recFacts_of (Bool.and_eq_true_iff.mp e).2) hwr k1 ok hb hw (call d z1)
end Mine

end
noncomputable section
namespace Mine

theorem eqD_of {h : Hp} {a b : V} {x y : D} (h1 : rd 60 h a = some x) (h2 : rd 60 h b = some y) {p : Prop} [Decidable p] (q : x = y ↔ p) : eqD h a b = some (decide p) := by
  unfold eqD
  rw [h1, h2]
  by_cases z : p
  · rw [decide_eq_true z]; exact congrArg some (@decide_eq_true _ (_) (q.mpr z))
  · rw [decide_eq_false z]; exact congrArg some (@decide_eq_false _ (_) fun e => z (q.mp e))
theorem eqop_int (a b : Int) (h : Hp) : eqop (.int a) (.int b) h = some (decide (a = b)) := eqD_of (h := h) (a := .int a) (b := .int b) rfl rfl ⟨fun e => D.int.inj e, fun e => congrArg _ e⟩
theorem eqop_str (a b : Nat) (h : Hp) : eqop (.str a) (.str b) h = some (decide (a = b)) := eqD_of (h := h) (a := .str a) (b := .str b) rfl rfl ⟨fun e => D.str.inj e, fun e => congrArg _ e⟩
theorem eqop_nn (h : Hp) : eqop .none .none h = some true := eqD_of (h := h) (a := .none) (b := .none) (p := True) rfl rfl ⟨fun _ => trivial, fun _ => rfl⟩
theorem eqop_ni (a : Int) (h : Hp) : eqop .none (.int a) h = some false := eqD_of (h := h) (a := .none) (b := .int a) (p := False) rfl rfl ⟨fun e => D.noConfusion e, False.elim⟩
theorem eqop_in (a : Int) (h : Hp) : eqop (.int a) .none h = some false := eqD_of (h := h) (a := .int a) (b := .none) (p := False) rfl rfl ⟨fun e => D.noConfusion e, False.elim⟩
theorem eqop_ns (a : Nat) (h : Hp) : eqop .none (.str a) h = some false := eqD_of (h := h) (a := .none) (b := .str a) (p := False) rfl rfl ⟨fun e => D.noConfusion e, False.elim⟩
theorem eqop_sn (a : Nat) (h : Hp) : eqop (.str a) .none h = some false := eqD_of (h := h) (a := .str a) (b := .none) (p := False) rfl rfl ⟨fun e => D.noConfusion e, False.elim⟩
theorem eqop_tt (xs ys : List V) (h : Hp) : eqop (.tup xs) (.tup ys) h = eqD h (.tup xs) (.tup ys) := rfl
theorem it_list {h : Hp} {a : Nat} {xs : List V} (e : h[a]? = some (.list xs)) : itop .seq (.ref a) h = some (xs, fun h' => h'[a]? = some (.list xs)) := by
  show ((h[a]?).bind fun o => o.items.map fun xs => (xs, fun h' : Hp => h'[a]? = some o)) = _
  rw [e]; rfl
theorem it_flist {h : Hp} {a : Nat} {xs : List V} (e : h[a]? = some (.flist xs)) : itop .seq (.ref a) h = some (xs, fun h' => h'[a]? = some (.flist xs)) := by
  show ((h[a]?).bind fun o => o.items.map fun xs => (xs, fun h' : Hp => h'[a]? = some o)) = _
  rw [e]; rfl
theorem it_range {n : Int} {h : Hp} (e : -1000 ≤ n ∧ n ≤ lim) : itop .range (.int n) h = some (rangeL 0 n.toNat, fun _ => True) := by
  show (if -1000 ≤ n ∧ n ≤ lim ∧ (0 : Int) ≤ 0 ∧ (0 : Int) ≤ lim then some (rangeL 0 (n - 0).toNat, fun _ : Hp => True) else none) = _
  rw [if_pos ⟨e.1, e.2, by decide, by decide⟩, Int.sub_zero]
theorem isB_bool (b : Bool) : isB (.bool b) = some b := rfl
theorem cmp_eq (a b : V) (h : Hp) : cmpop .eq a b h = eqop a b h := rfl
theorem cmp_ne (a b : V) (h : Hp) : cmpop .ne a b h = (eqop a b h).map not := rfl
theorem cmp_lt (a b : Int) (h : Hp) : cmpop .lt (.int a) (.int b) h = some (decide (a < b)) := rfl
theorem cmp_le (a b : Int) (h : Hp) : cmpop .le (.int a) (.int b) h = some (decide (a ≤ b)) := rfl
theorem cmp_gt (a b : Int) (h : Hp) : cmpop .gt (.int a) (.int b) h = some (decide (b < a)) := rfl
theorem cmp_ge (a b : Int) (h : Hp) : cmpop .ge (.int a) (.int b) h = some (decide (b ≤ a)) := rfl
theorem cmp_is_nn (h : Hp) : cmpop .is_ .none .none h = some true := rfl
theorem cmp_is_in (a : Int) (h : Hp) : cmpop .is_ (.int a) .none h = some false := rfl
theorem cmp_is_tn (a : List V) (h : Hp) : cmpop .is_ (.tup a) .none h = some false := rfl
theorem cmp_is_sn (a : Nat) (h : Hp) : cmpop .is_ (.str a) .none h = some false := rfl
theorem cmp_isn_nn (h : Hp) : cmpop .isnot .none .none h = some false := rfl
theorem cmp_isn_in (a : Int) (h : Hp) : cmpop .isnot (.int a) .none h = some true := rfl
theorem cmp_isn_tn (a : List V) (h : Hp) : cmpop .isnot (.tup a) .none h = some true := rfl
theorem cmp_in_t (a : V) (xs : List V) (h : Hp) : cmpop .in_ a (.tup xs) h = inS a xs := rfl
theorem bin_add (a b : Int) (h : Hp) : binop .add (.int a) (.int b) h = some (.int (a + b), h) := rfl
theorem bin_sub (a b : Int) (h : Hp) : binop .sub (.int a) (.int b) h = some (.int (a - b), h) := rfl
theorem bin_mul (a b : Int) (h : Hp) (q : small b = true) : binop .mul (.int a) (.int b) h = some (.int (a * b), h) := if_pos (by rw [q, Bool.or_true])
theorem bin_div (a b : Int) (h : Hp) (q : b ≠ 0) : binop .div (.int a) (.int b) h = some (.int (a.fdiv b), h) := if_pos q
theorem bin_mod (a b : Int) (h : Hp) (q : b ≠ 0) : binop .mod (.int a) (.int b) h = some (.int (a.fmod b), h) := if_pos q
theorem bin_addl {h : Hp} {a b : Nat} {xs ys : List V} (ea : h[a]? = some (.list xs)) (eb : h[b]? = some (.list ys)) (q : xs.length + ys.length ≤ lim) : binop .add (.ref a) (.ref b) h = some (.ref h.length, h ++ [.list (xs ++ ys)]) := by
  show ((h[a]?).bind O.asL).bind (fun xs => ((h[b]?).bind O.asL).bind fun ys => if xs.length + ys.length ≤ lim then some (V.ref h.length, h ++ [O.list (xs ++ ys)]) else none) = _
  rw [ea, eb]; exact if_pos q
theorem bin_mull {h : Hp} {a : Nat} {n : Int} {xs : List V} (ea : h[a]? = some (.list xs)) (q : n.natAbs ≤ lim ∧ xs.length * n.toNat ≤ lim) : binop .mul (.ref a) (.int n) h = some (.ref h.length, h ++ [.list (repL xs n.toNat)]) := by
  show ((h[a]?).bind O.asL).bind (fun xs => if n.natAbs ≤ lim ∧ xs.length * n.toNat ≤ lim then some (V.ref h.length, h ++ [O.list (repL xs n.toNat)]) else none) = _
  rw [ea]; exact if_pos q
theorem idx_tup (xs : List V) (i : Int) (h : Hp) : idxop (.tup xs) (.int i) h = seqAt xs i := rfl
theorem ix_list {h : Hp} {a : Nat} {xs : List V} (e : h[a]? = some (.list xs)) (i : Int) : idxop (.ref a) (.int i) h = seqAt xs i := by
  show (h[a]?).bind (fun o => idxO o (.int i)) = _
  rw [e]; rfl
theorem ix_flist {h : Hp} {a : Nat} {xs : List V} (e : h[a]? = some (.flist xs)) (i : Int) : idxop (.ref a) (.int i) h = seqAt xs i := by
  show (h[a]?).bind (fun o => idxO o (.int i)) = _
  rw [e]; rfl
theorem bi_len {h : Hp} {a : Nat} {xs : List V} (e : h[a]? = some (.list xs)) : biop .len [.ref a] h = some (.int xs.length, h) := by
  have : lenOf (.ref a) h = some xs.length := by
    show ((h[a]?).bind O.items).map List.length = _
    rw [e]; rfl
  show (Option.bind (some (V.ref a)) fun v => (lenOf v h).map fun n : Nat => (V.int n, h)) = _
  rw [Option.bind_some, this]; rfl
theorem bi_flen {h : Hp} {a : Nat} {xs : List V} (e : h[a]? = some (.flist xs)) : biop .len [.ref a] h = some (.int xs.length, h) := by
  have : lenOf (.ref a) h = some xs.length := by
    show ((h[a]?).bind O.items).map List.length = _
    rw [e]; rfl
  show (Option.bind (some (V.ref a)) fun v => (lenOf v h).map fun n : Nat => (V.int n, h)) = _
  rw [Option.bind_some, this]; rfl
theorem bi_lent (xs : List V) (h : Hp) : biop .len [.tup xs] h = some (.int xs.length, h) := rfl
theorem bi_intb (b : Bool) (h : Hp) : biop .int [.bool b] h = some (.int (if b then 1 else 0), h) := rfl
theorem bi_list {h : Hp} {a : Nat} {xs : List V} (e : h[a]? = some (.list xs)) : biop .list [.ref a] h = some (.ref h.length, h ++ [.list xs]) := by
  show ((h[a]?).bind O.asL).map (fun xs => (V.ref h.length, h ++ [O.list xs])) = _
  rw [e]; rfl
theorem isi_str (w : Nat) (h : Hp) : isiop (.str w) .str h = some true := rfl
theorem isi_tup (xs : List V) (h : Hp) : isiop (.tup xs) .tuple h = some true := rfl
theorem isi_int (i : Int) (h : Hp) : isiop (.int i) .int h = some true := rfl
theorem isi_intb (i : Int) (h : Hp) : isiop (.int i) .bool h = some false := rfl
theorem isi_list {a : Nat} {xs : List V} {h : Hp} (e : h[a]? = some (.list xs)) : isiop (.ref a) .list h = some true := by
  show (((h[a]?).bind O.asL).map fun _ => 4).bind (fun k => if k ≠ 1 ∧ 4 < 5 then some (k == 4) else if 4 < 2 then some true else none) = _
  rw [e]; rfl
theorem asRef_ref (a : Nat) : (V.ref a).asRef = some a := rfl
theorem setO_list (xs : List V) (i : Int) (v : V) : setO (.list xs) (.int i) v = (setAt xs i v).map .list := rfl
theorem setO_dict {es : List (Nat × V)} {k : Nat} {v : V} (h : es.length < 400) : setO (.dict es) (.str k) v = some (.dict (putK es k v)) := if_pos h
theorem ix_dict {h : Hp} {a : Nat} {es : List (Nat × V)} (e : h[a]? = some (.dict es)) (k : Nat) : idxop (.ref a) (.str k) h = getK es k := by
  show (h[a]?).bind (fun o => idxO o (.str k)) = _
  rw [e]; rfl
theorem getL0 (v : V) (l : Locs) : getL (some v :: l) 0 = some v := rfl
theorem getLs (v : Option V) (l : Locs) (i : Nat) : getL (v :: l) (i + 1) = getL l i := rfl
theorem seq0 (v : V) (l : List V) : seqAt (v :: l) 0 = some v := rfl
theorem seq1 (v w : V) (l : List V) : seqAt (v :: w :: l) 1 = some w := rfl
theorem seq2 (v w x : V) (l : List V) : seqAt (v :: w :: x :: l) 2 = some x := rfl
theorem seq3 (v w x y : V) (l : List V) : seqAt (v :: w :: x :: y :: l) 3 = some y := rfl

theorem step_enter {g : Genv} {C N : Oracle} {f : Nat} {fn : Fn} {vs : List V} {h : Hp} {Q : V → Hp → Prop} {X : Nat → Hp → Prop} (hf : g.fn f = some fn) (h1 : vs.length = fn.np) (h2 : fn.np ≤ fn.n)
    (h3 : wpS g C N fn.body ⟨vs.map some ++ List.replicate (fn.n - fn.np) none, h⟩ (fun σ => Q .none σ.hp) Q X) : stepC g C N f vs h Q X := by
  unfold stepC; rw [hf, onSome_some]; exact ⟨h1, h2, h3⟩

theorem wpS_seq {g : Genv} {C N : Oracle} {a b : S} {σ : St} {KN : St → Prop} {KR : V → Hp → Prop} {X : Nat → Hp → Prop} : wpS g C N (.seq a b) σ KN KR X = wpS g C N a σ (fun σ' => wpS g C N b σ' KN KR X) KR X := rfl

theorem for_ind {grd : Hp → Prop} {step : V → St → (St → Prop) → Prop} {K : St → Prop} (I : List V → St → Prop) (hnil : ∀ σ, I [] σ → grd σ.hp ∧ K σ)
    (hcons : ∀ x xs σ K', I (x :: xs) σ → (∀ σ', I xs σ' → K' σ') → grd σ.hp ∧ step x σ K') : ∀ xs σ, I xs σ → forWp grd step xs σ K
  | [], σ, h => hnil σ h
  | x :: xs, σ, h => hcons x xs σ _ h fun σ' h' => for_ind I hnil hcons xs σ' h'

theorem comp_ind {grd : Hp → Prop} {step : V → Locs → Hp → (Locs → List V → Hp → Prop) → Prop} {K : List V → Hp → Prop} (I : List V → Locs → List V → Hp → Prop) (hnil : ∀ l acc h, I [] l acc h → grd h ∧ K acc h)
    (hcons : ∀ x xs l acc h K', I (x :: xs) l acc h → (∀ l' ys h', I xs l' (acc ++ ys) h' → (acc ++ ys).length ≤ lim → K' l' ys h') → grd h ∧ step x l h K') : ∀ xs l acc h, I xs l acc h → compWp grd step xs l acc h K
  | [], l, acc, h, i => hnil l acc h i
  | x :: xs, l, acc, h, i => hcons x xs l acc h _ i fun l' ys h' i' b => ⟨b, comp_ind I hnil hcons xs l' (acc ++ ys) h' i'⟩

theorem while_ind {g : Genv} {C N : Oracle} {c : E} {b : S} {KN : St → Prop} {KR : V → Hp → Prop} {X : Nat → Hp → Prop} (I : Nat → St → Prop)
    (h : ∀ n σ K', I n σ → (∀ m σ', m < n → I m σ' → K' σ') → wpE g C N σ.loc c σ.hp (fun v h => onSome (isB v) fun r => match r with
      | true => wpS g C N b ⟨σ.loc, h⟩ K' KR X
      | false => KN ⟨σ.loc, h⟩) X) : ∀ n σ, I n σ → wpS g C N (.while_ c b) σ KN KR X := by
  intro n σ hi
  rw [wS_while_]
  intro P hP
  induction n using Nat.strongRecOn generalizing σ with
  | _ n ih => exact hP σ (h n σ P hi fun m σ' hm hi' => ih m hm σ' hi')
end Mine

end
noncomputable section
namespace Mine

abbrev Cell := Nat × O

structure Own (b : Nat) (h : Hp) (L : List Cell) : Prop where
  nd : (L.map (·.1)).Nodup
  at_ : ∀ x ∈ L, h[x.1]? = some x.2
  ge : ∀ x ∈ L, b ≤ x.1
  bl : b ≤ h.length

theorem get_lt {h : Hp} {a : Nat} {o : O} (e : h[a]? = some o) : a < h.length := by obtain ⟨z, _⟩ := List.getElem?_eq_some_iff.mp e; exact z

theorem Own.nil {b : Nat} {h : Hp} (e : b ≤ h.length) : Own b h [] := ⟨List.nodup_nil, fun _ z => (by cases z), fun _ z => (by cases z), e⟩
theorem Own.get {b : Nat} {h : Hp} {L : List Cell} (w : Own b h L) {i : Nat} {a : Nat} {o : O} (e : L[i]? = some (a, o)) : h[a]? = some o := w.at_ _ (List.mem_of_getElem? e)
theorem Own.lt {b : Nat} {h : Hp} {L : List Cell} (w : Own b h L) {i : Nat} {a : Nat} {o : O} (e : L[i]? = some (a, o)) : a < h.length := get_lt (w.get e)
theorem Own.geq {b : Nat} {h : Hp} {L : List Cell} (w : Own b h L) {i : Nat} {a : Nat} {o : O} (e : L[i]? = some (a, o)) : b ≤ a := w.ge _ (List.mem_of_getElem? e)
theorem Own.ne {b : Nat} {h : Hp} {L : List Cell} (w : Own b h L) {i j : Nat} {x y : Cell} (ei : L[i]? = some x) (ej : L[j]? = some y) (hij : i ≠ j) : x.1 ≠ y.1 := by
  intro e
  have h1 : (L.map (·.1))[i]? = some x.1 := by rw [List.getElem?_map, ei]; rfl
  have h2 : (L.map (·.1))[j]? = some x.1 := by rw [List.getElem?_map, ej, e]; rfl
  obtain ⟨l1, g1⟩ := List.getElem?_eq_some_iff.mp h1
  obtain ⟨l2, g2⟩ := List.getElem?_eq_some_iff.mp h2
  have nd := List.pairwise_iff_getElem.mp w.nd
  rcases Nat.lt_or_gt_of_ne hij with q | q
  · exact nd i j l1 l2 q (g1.trans g2.symm)
  · exact nd j i l2 l1 q (g2.trans g1.symm)

theorem Own.set {b : Nat} {h : Hp} {L : List Cell} (w : Own b h L) (i : Nat) {a : Nat} {o : O} (e : L[i]? = some (a, o)) (o' : O) : Own b (h.set a o') (L.set i (a, o')) := by
  have hm : (L.set i (a, o')).map (·.1) = L.map (·.1) := by
    rw [List.map_set]
    apply List.ext_getElem?
    intro j
    rw [List.getElem?_set]
    split
    · rename_i q
      subst q
      split
      · rw [List.getElem?_map, e]; rfl
      · rename_i q; rw [List.getElem?_eq_none (by (first | lia | omega))]
    · rfl
  refine ⟨by rw [hm]; exact w.nd, fun x hx => ?_, fun x hx => ?_, by rw [List.length_set]; exact w.bl⟩
  · obtain ⟨j, hj⟩ := List.mem_iff_getElem?.mp hx
    rw [List.getElem?_set] at hj
    split at hj
    · split at hj
      · cases hj; exact List.getElem?_set_self (w.lt e)
      · cases hj
    · rename_i q
      have := w.ne e hj q
      rw [List.getElem?_set_ne this]
      exact w.at_ _ (List.mem_of_getElem? hj)
  · have : x.1 ∈ L.map (·.1) := by rw [← hm]; exact List.mem_map_of_mem hx
    obtain ⟨y, hy, ey⟩ := List.mem_map.mp this
    rw [← ey]; exact w.ge y hy

theorem Own.alloc {b : Nat} {h : Hp} {L : List Cell} (w : Own b h L) (o : O) : Own b (h ++ [o]) ((h.length, o) :: L) := by
  refine ⟨?_, fun x hx => ?_, fun x hx => ?_, by simp only [List.length_append, List.length_cons, List.length_nil]; have := w.bl; (first | lia | omega)⟩
  · simp only [List.map_cons, List.nodup_cons]
    refine ⟨fun q => ?_, w.nd⟩
    obtain ⟨y, hy, ey⟩ := List.mem_map.mp q
    have := get_lt (w.at_ y hy)
    (first | lia | omega)
  · cases hx with
    | head => simp
    | tail _ hx => rw [List.getElem?_append_left (get_lt (w.at_ x hx))]; exact w.at_ x hx
  · cases hx with
    | head => exact w.bl
    | tail _ hx => exact w.ge x hx

theorem Own.junk {b : Nat} {h : Hp} {L : List Cell} (w : Own b h L) (o : O) : Own b (h ++ [o]) L := by
  refine ⟨w.nd, fun x hx => ?_, w.ge, by simp only [List.length_append, List.length_cons, List.length_nil]; have := w.bl; (first | lia | omega)⟩
  rw [List.getElem?_append_left (get_lt (w.at_ x hx))]; exact w.at_ x hx
theorem Own.perm {b : Nat} {h : Hp} {L L' : List Cell} (w : Own b h L) (p : L.Perm L') : Own b h L' :=
  ⟨(p.map (·.1)).nodup_iff.mp w.nd, fun x hx => w.at_ x (p.mem_iff.mpr hx), fun x hx => w.ge x (p.mem_iff.mpr hx), w.bl⟩
theorem Own.sub {b : Nat} {h : Hp} {L L' : List Cell} (w : Own b h L) (p : L'.Sublist L) : Own b h L' :=
  ⟨(p.map (·.1)).nodup w.nd, fun x hx => w.at_ x (p.subset hx), fun x hx => w.ge x (p.subset hx), w.bl⟩

noncomputable def Keep (b : Nat) (h h' : Hp) : Prop := h.length ≤ h'.length ∧ ∀ a, a < b → h'[a]? = h[a]?
theorem Keep.refl (b : Nat) (h : Hp) : Keep b h h := ⟨Nat.le_refl _, fun _ _ => rfl⟩
theorem Keep.trans {b : Nat} {h h1 h2 : Hp} (x : Keep b h h1) (y : Keep b h1 h2) : Keep b h h2 := ⟨Nat.le_trans x.1 y.1, fun a e => (y.2 a e).trans (x.2 a e)⟩
theorem Keep.set {b : Nat} {h h' : Hp} (x : Keep b h h') {a : Nat} (e : b ≤ a) (o : O) : Keep b h (h'.set a o) :=
  ⟨by rw [List.length_set]; exact x.1, fun c hc => by rw [List.getElem?_set_ne (by (first | lia | omega))]; exact x.2 c hc⟩
theorem Keep.app {b : Nat} {h h' : Hp} (x : Keep b h h') (e : b ≤ h.length) (o : O) : Keep b h (h' ++ [o]) :=
  ⟨by rw [List.length_append]; have := x.1; (first | lia | omega), fun c hc => by rw [List.getElem?_append_left (by have := x.1; (first | lia | omega))]; exact x.2 c hc⟩
theorem Keep.mono {b c : Nat} {h h' : Hp} (x : Keep b h h') (e : c ≤ b) : Keep c h h' := ⟨x.1, fun a ha => x.2 a (by (first | lia | omega))⟩

theorem call_enter {g : Genv} {r f : Nat} {fn : Fn} {vs : List V} {h : Hp} {Q : V → Hp → Prop} {X : Nat → Hp → Prop} (hf : g.fn f = some fn) (h1 : vs.length = fn.np) (h2 : fn.np ≤ fn.n)
    (h3 : wpS g (callWp g (r + 1)) (callWp g r) fn.body ⟨vs.map some ++ List.replicate (fn.n - fn.np) none, h⟩ (fun σ => Q .none σ.hp) Q X) : callWp g (r + 2) f vs h Q X := step_enter hf h1 h2 h3

theorem seqAt_last (xs : List V) (x : V) : seqAt (xs ++ [x]) (-1) = some x := by
  unfold seqAt
  rw [if_neg (by decide), if_pos (by simp only [List.length_append, List.length_cons, List.length_nil]; (first | lia | omega))]
  have : (((xs ++ [x]).length : Int) + -1).toNat = xs.length := by simp only [List.length_append, List.length_cons, List.length_nil]; (first | lia | omega)
  rw [this, List.getElem?_append_right (Nat.le_refl _)]; simp
theorem seqAt_nat {xs : List V} {i : Int} (h : 0 ≤ i) : seqAt xs i = xs[i.toNat]? := by unfold seqAt; rw [if_pos h]
end Mine

end
noncomputable section
namespace Mine

noncomputable def iL (xs : List Int) : O := .list (xs.map .int)

noncomputable def fWhole_0 : S := .seq (.ret (.and_ (.isi (.loc 0) .int) (.not_ (.isi (.loc 0) .bool)))) .skip
noncomputable def fWhole : Fn := ⟨1, 1, fWhole_0⟩
noncomputable def fCellAt_1 : S := .seq (.ret (.idx (.loc 0) (.loc 1))) .skip
noncomputable def fCellAt_2 : S := .seq (.ret (.int 0)) .skip
noncomputable def fCellAt_0 : S := .seq (.if_ (.cmp .lt (.loc 1) (.bi .len [(.loc 0)])) fCellAt_1 .skip) fCellAt_2
noncomputable def fCellAt : Fn := ⟨2, 2, fCellAt_0⟩
noncomputable def fNumber_1 : S := .seq (.ret (.bin .sub (.bin .mod (.bin .div (.loc 0) (.int 5)) (.int 1000000000000000000000000000000)) (.bin .mul (.int 5) (.int 100000000000000000000000000000)))) .skip
noncomputable def fNumber_2 : S := .seq (.ret (.bin .sub (.bin .mod (.bin .div (.loc 0) (.int 5)) (.int 8)) (.int 2))) .skip
noncomputable def fNumber_0 : S := .seq (.if_ (.cmp .eq (.bin .mod (.loc 0) (.int 5)) (.int 4)) fNumber_1 .skip) fNumber_2
noncomputable def fNumber : Fn := ⟨1, 1, fNumber_0⟩

section
variable {g : Genv} {r f : Nat} {h : Hp} {Q : V → Hp → Prop} {X : Nat → Hp → Prop}

theorem whole_ok (hf : g.fn f = some fWhole) {i : Int} (hQ : Q (.bool true) h) : callWp g (r + 2) f [.int i] h Q X := by
  refine call_enter hf rfl (by decide) ?_
  generalize callWp g (r + 1) = C
  generalize callWp g r = N
  show wpS g C N fWhole_0 ⟨[some (.int i)], h⟩ _ _ _
  simp only [fWhole_0, wS_skip, wS_seq, wS_expr, wS_asg, wS_if_, wS_while_, wS_for_, wS_ret, wS_raise, wE_none, wE_bool, wE_int, wE_str, wE_loc, wE_glob, wE_bin, wE_not_, wE_cmp, wE_cmp2, wE_and_, wE_or_, wE_ite, wE_tup, wE_lst, wE_dct, wE_idx, wE_slc, wE_attr, wE_call, wE_new, wE_meth, wE_bi, wE_isi, wE_comp, wEs_nil, wEs_cons, wT_loc, wT_attr, wT_idx, wT_unp, wC_nil, wC_cons, onSome_some, isB_bool, cmp_eq, cmp_ne, cmp_lt, cmp_le, cmp_gt, cmp_ge, cmp_is_nn, cmp_is_in, cmp_is_tn, cmp_is_sn, cmp_isn_nn, cmp_isn_in, cmp_isn_tn, cmp_in_t, eqop_int, eqop_str, eqop_nn, eqop_ni, eqop_in, eqop_ns, eqop_sn, bin_add, bin_sub, idx_tup, bi_lent, bi_intb, getL0, getLs, seq0, seq1, seq2, seq3, List.map_cons, List.map_nil, List.cons_append, List.nil_append, List.set_cons_zero, List.set_cons_succ, List.length_cons, List.length_nil, Nat.reduceLT, Nat.reduceAdd, Nat.reduceSub, Nat.reduceEqDiff, if_true, if_false, decide_true, decide_false, Option.map_some, Option.map_none, Bool.not_true, Bool.not_false, getK, putK, List.replicate_succ, List.replicate_zero, true_and, and_true, List.isEmpty_nil, List.isEmpty_cons, asRef_ref, setO_list, Option.bind_some, isi_int, isi_intb]
  exact hQ

noncomputable def cellAt (ns : List Int) (k : Nat) : Int := ns[k]?.getD 0
theorem cellAt_ok (hf : g.fn f = some fCellAt) {a : Nat} {ns : List Int} (k : Nat) (ha : h[a]? = some (.flist (ns.map .int))) (hq : Q (.int (cellAt ns k)) h) : callWp g (r + 2) f [.ref a, .int k] h Q X := by
  refine call_enter hf rfl (by decide) ?_
  generalize callWp g (r + 1) = C
  generalize callWp g r = N
  show wpS g C N fCellAt_0 ⟨[some (.ref a), some (.int k)], h⟩ _ _ _
  simp only [fCellAt_0, fCellAt_1, fCellAt_2, wS_skip, wS_seq, wS_expr, wS_asg, wS_if_, wS_while_, wS_for_, wS_ret, wS_raise, wE_none, wE_bool, wE_int, wE_str, wE_loc, wE_glob, wE_bin, wE_not_, wE_cmp, wE_cmp2, wE_and_, wE_or_, wE_ite, wE_tup, wE_lst, wE_dct, wE_idx, wE_slc, wE_attr, wE_call, wE_new, wE_meth, wE_bi, wE_isi, wE_comp, wEs_nil, wEs_cons, wT_loc, wT_attr, wT_idx, wT_unp, wC_nil, wC_cons, onSome_some, isB_bool, cmp_eq, cmp_ne, cmp_lt, cmp_le, cmp_gt, cmp_ge, cmp_is_nn, cmp_is_in, cmp_is_tn, cmp_is_sn, cmp_isn_nn, cmp_isn_in, cmp_isn_tn, cmp_in_t, eqop_int, eqop_str, eqop_nn, eqop_ni, eqop_in, eqop_ns, eqop_sn, bin_add, bin_sub, idx_tup, bi_lent, bi_intb, getL0, getLs, seq0, seq1, seq2, seq3, List.map_cons, List.map_nil, List.cons_append, List.nil_append, List.set_cons_zero, List.set_cons_succ, List.length_cons, List.length_nil, Nat.reduceLT, Nat.reduceAdd, Nat.reduceSub, Nat.reduceEqDiff, if_true, if_false, decide_true, decide_false, Option.map_some, Option.map_none, Bool.not_true, Bool.not_false, getK, putK, List.replicate_succ, List.replicate_zero, true_and, and_true, List.isEmpty_nil, List.isEmpty_cons, asRef_ref, setO_list, Option.bind_some, bi_flen ha, List.length_map]
  by_cases hk : k < ns.length
  · have e : seqAt (ns.map V.int) (k : Int) = some (.int (cellAt ns k)) := by
      rw [seqAt_nat (by (first | lia | omega))]; unfold cellAt; simp [List.getElem?_eq_getElem hk]
    simp only [show ((k : Int) < ns.length) from by (first | lia | omega), wS_skip, wS_seq, wS_expr, wS_asg, wS_if_, wS_while_, wS_for_, wS_ret, wS_raise, wE_none, wE_bool, wE_int, wE_str, wE_loc, wE_glob, wE_bin, wE_not_, wE_cmp, wE_cmp2, wE_and_, wE_or_, wE_ite, wE_tup, wE_lst, wE_dct, wE_idx, wE_slc, wE_attr, wE_call, wE_new, wE_meth, wE_bi, wE_isi, wE_comp, wEs_nil, wEs_cons, wT_loc, wT_attr, wT_idx, wT_unp, wC_nil, wC_cons, onSome_some, isB_bool, cmp_eq, cmp_ne, cmp_lt, cmp_le, cmp_gt, cmp_ge, cmp_is_nn, cmp_is_in, cmp_is_tn, cmp_is_sn, cmp_isn_nn, cmp_isn_in, cmp_isn_tn, cmp_in_t, eqop_int, eqop_str, eqop_nn, eqop_ni, eqop_in, eqop_ns, eqop_sn, bin_add, bin_sub, idx_tup, bi_lent, bi_intb, getL0, getLs, seq0, seq1, seq2, seq3, List.map_cons, List.map_nil, List.cons_append, List.nil_append, List.set_cons_zero, List.set_cons_succ, List.length_cons, List.length_nil, Nat.reduceLT, Nat.reduceAdd, Nat.reduceSub, Nat.reduceEqDiff, if_true, if_false, decide_true, decide_false, Option.map_some, Option.map_none, Bool.not_true, Bool.not_false, getK, putK, List.replicate_succ, List.replicate_zero, true_and, and_true, List.isEmpty_nil, List.isEmpty_cons, asRef_ref, setO_list, Option.bind_some, ix_flist ha, e]
    exact hq
  · have e : cellAt ns k = 0 := by unfold cellAt; rw [List.getElem?_eq_none (by (first | lia | omega))]; rfl
    rw [e] at hq
    simp only [show ¬ ((k : Int) < ns.length) from by (first | lia | omega), wS_skip, wS_seq, wS_expr, wS_asg, wS_if_, wS_while_, wS_for_, wS_ret, wS_raise, wE_none, wE_bool, wE_int, wE_str, wE_loc, wE_glob, wE_bin, wE_not_, wE_cmp, wE_cmp2, wE_and_, wE_or_, wE_ite, wE_tup, wE_lst, wE_dct, wE_idx, wE_slc, wE_attr, wE_call, wE_new, wE_meth, wE_bi, wE_isi, wE_comp, wEs_nil, wEs_cons, wT_loc, wT_attr, wT_idx, wT_unp, wC_nil, wC_cons, onSome_some, isB_bool, cmp_eq, cmp_ne, cmp_lt, cmp_le, cmp_gt, cmp_ge, cmp_is_nn, cmp_is_in, cmp_is_tn, cmp_is_sn, cmp_isn_nn, cmp_isn_in, cmp_isn_tn, cmp_in_t, eqop_int, eqop_str, eqop_nn, eqop_ni, eqop_in, eqop_ns, eqop_sn, bin_add, bin_sub, idx_tup, bi_lent, bi_intb, getL0, getLs, seq0, seq1, seq2, seq3, List.map_cons, List.map_nil, List.cons_append, List.nil_append, List.set_cons_zero, List.set_cons_succ, List.length_cons, List.length_nil, Nat.reduceLT, Nat.reduceAdd, Nat.reduceSub, Nat.reduceEqDiff, if_true, if_false, decide_true, decide_false, Option.map_some, Option.map_none, Bool.not_true, Bool.not_false, getK, putK, List.replicate_succ, List.replicate_zero, true_and, and_true, List.isEmpty_nil, List.isEmpty_cons, asRef_ref, setO_list, Option.bind_some]
    exact hq

noncomputable def numF (c : Int) : Int := if c.fmod 5 = 4 then (c.fdiv 5).fmod 1000000000000000000000000000000 - 5 * 100000000000000000000000000000 else (c.fdiv 5).fmod 8 - 2
theorem number_ok (hf : g.fn f = some fNumber) {c : Int} (hq : Q (.int (numF c)) h) : callWp g (r + 2) f [.int c] h Q X := by
  refine call_enter hf rfl (by decide) ?_
  generalize callWp g (r + 1) = C
  generalize callWp g r = N
  show wpS g C N fNumber_0 ⟨[some (.int c)], h⟩ _ _ _
  have b5 : (5 : Int) ≠ 0 := by decide
  have b8 : (8 : Int) ≠ 0 := by decide
  have bb : (1000000000000000000000000000000 : Int) ≠ 0 := by decide
  have bm : binop .mul (.int 5) (.int 100000000000000000000000000000) h = some (.int (5 * 100000000000000000000000000000), h) := rfl
  unfold numF at hq
  by_cases hc : c.fmod 5 = 4
  · rw [if_pos hc] at hq
    simp only [fNumber_0, fNumber_1, wS_skip, wS_seq, wS_expr, wS_asg, wS_if_, wS_while_, wS_for_, wS_ret, wS_raise, wE_none, wE_bool, wE_int, wE_str, wE_loc, wE_glob, wE_bin, wE_not_, wE_cmp, wE_cmp2, wE_and_, wE_or_, wE_ite, wE_tup, wE_lst, wE_dct, wE_idx, wE_slc, wE_attr, wE_call, wE_new, wE_meth, wE_bi, wE_isi, wE_comp, wEs_nil, wEs_cons, wT_loc, wT_attr, wT_idx, wT_unp, wC_nil, wC_cons, onSome_some, isB_bool, cmp_eq, cmp_ne, cmp_lt, cmp_le, cmp_gt, cmp_ge, cmp_is_nn, cmp_is_in, cmp_is_tn, cmp_is_sn, cmp_isn_nn, cmp_isn_in, cmp_isn_tn, cmp_in_t, eqop_int, eqop_str, eqop_nn, eqop_ni, eqop_in, eqop_ns, eqop_sn, bin_add, bin_sub, idx_tup, bi_lent, bi_intb, getL0, getLs, seq0, seq1, seq2, seq3, List.map_cons, List.map_nil, List.cons_append, List.nil_append, List.set_cons_zero, List.set_cons_succ, List.length_cons, List.length_nil, Nat.reduceLT, Nat.reduceAdd, Nat.reduceSub, Nat.reduceEqDiff, if_true, if_false, decide_true, decide_false, Option.map_some, Option.map_none, Bool.not_true, Bool.not_false, getK, putK, List.replicate_succ, List.replicate_zero, true_and, and_true, List.isEmpty_nil, List.isEmpty_cons, asRef_ref, setO_list, Option.bind_some, bin_mod _ _ _ b5, hc, bin_div _ _ _ b5, bin_mod _ _ _ bb, bm]
    exact hq
  · rw [if_neg hc] at hq
    simp only [fNumber_0, fNumber_2, wS_skip, wS_seq, wS_expr, wS_asg, wS_if_, wS_while_, wS_for_, wS_ret, wS_raise, wE_none, wE_bool, wE_int, wE_str, wE_loc, wE_glob, wE_bin, wE_not_, wE_cmp, wE_cmp2, wE_and_, wE_or_, wE_ite, wE_tup, wE_lst, wE_dct, wE_idx, wE_slc, wE_attr, wE_call, wE_new, wE_meth, wE_bi, wE_isi, wE_comp, wEs_nil, wEs_cons, wT_loc, wT_attr, wT_idx, wT_unp, wC_nil, wC_cons, onSome_some, isB_bool, cmp_eq, cmp_ne, cmp_lt, cmp_le, cmp_gt, cmp_ge, cmp_is_nn, cmp_is_in, cmp_is_tn, cmp_is_sn, cmp_isn_nn, cmp_isn_in, cmp_isn_tn, cmp_in_t, eqop_int, eqop_str, eqop_nn, eqop_ni, eqop_in, eqop_ns, eqop_sn, bin_add, bin_sub, idx_tup, bi_lent, bi_intb, getL0, getLs, seq0, seq1, seq2, seq3, List.map_cons, List.map_nil, List.cons_append, List.nil_append, List.set_cons_zero, List.set_cons_succ, List.length_cons, List.length_nil, Nat.reduceLT, Nat.reduceAdd, Nat.reduceSub, Nat.reduceEqDiff, if_true, if_false, decide_true, decide_false, Option.map_some, Option.map_none, Bool.not_true, Bool.not_false, getK, putK, List.replicate_succ, List.replicate_zero, true_and, and_true, List.isEmpty_nil, List.isEmpty_cons, asRef_ref, setO_list, Option.bind_some, bin_mod _ _ _ b5, hc, bin_div _ _ _ b5, bin_mod _ _ _ b8]
    exact hq
end

theorem mapO_map {α : Type} {f : V → Option D} {g : α → V} {k : α → D} (h : ∀ x, f (g x) = some (k x)) : ∀ xs : List α, mapO f (xs.map g) = some (xs.map k)
  | [] => rfl
  | x :: xs => by simp only [List.map_cons, mapO, h x, mapO_map h xs]
theorem rd_list {h : Hp} {a n : Nat} {xs : List V} {ds : List D} (ha : h[a]? = some (.list xs)) (e : mapO (rd n h) xs = some ds) : rd (n + 1) h (.ref a) = some (.list ds) := by
  show (match h[a]? with | some o => (match o.items with | some xs => (mapO (rd n h) xs).map D.list | none => none) | none => none) = _
  rw [ha]
  simp only [O.items, e]; rfl
theorem rd_ints {h : Hp} {a n : Nat} {xs : List Int} (ha : h[a]? = some (iL xs)) : rd (n + 2) h (.ref a) = some (.list (xs.map .int)) := rd_list ha (mapO_map (fun _ => rfl) xs)
theorem eq_same {h : Hp} {u v : V} {x : D} (h1 : rd 60 h u = some x) (h2 : rd 60 h v = some x) : eqD h u v = some true := by
  unfold eqD
  rw [h1, h2]
  simp
theorem eq_refs {h : Hp} {a b : Nat} {x : D} (h1 : rd 60 h (.ref a) = some x) (h2 : rd 60 h (.ref b) = some x) : eqop (.ref a) (.ref b) h = some true := eq_same h1 h2
end Mine

end
noncomputable section
namespace Mine

noncomputable def mGoal_2 : S := .seq (.ret (.loc 4)) .skip
noncomputable def mGoal_1 : S := .seq (.if_ (.cmp2 .le .lt (.loc 2) (.loc 1) (.loc 3)) mGoal_2 .skip) .skip
noncomputable def mGoal_3 : S := .seq (.ret .none) .skip
noncomputable def mGoal_0 : S := .seq (.for_ [2, 3, 4] .seq (.loc 0) mGoal_1) mGoal_3
noncomputable def mGoal : Fn := ⟨2, 5, mGoal_0⟩
noncomputable def mEnt_2 : S := .seq (.asg (.attr (.loc 0) 4) (.lst [])) .skip
noncomputable def mEnt_1 : S := .seq (.asg (.attr (.loc 0) 3) (.bin .add (.lst [(.loc 3)]) (.comp 2 [] [1] .range (.bin .sub (.loc 2) (.int 1)) [] (.int 0)))) mEnt_2
noncomputable def mEnt_0 : S := .seq (.asg (.attr (.loc 0) 2) (.loc 1)) mEnt_1
noncomputable def mEnt : Fn := ⟨4, 4, mEnt_0⟩
noncomputable def mMill_7 : S := .seq (.asg (.attr (.loc 0) 11) .none) .skip
noncomputable def mMill_6 : S := .seq (.asg (.attr (.loc 0) 10) (.lst [(.new 0 [(.idx (.attr (.loc 0) 7) (.int 0)), (.attr (.loc 0) 3), (.loc 2)])])) mMill_7
noncomputable def mMill_5 : S := .seq (.asg (.attr (.loc 0) 9) (.lst [])) mMill_6
noncomputable def mMill_4 : S := .seq (.asg (.attr (.loc 0) 8) (.loc 3)) mMill_5
noncomputable def mMill_3 : S := .seq (.asg (.attr (.loc 0) 3) (.idx (.loc 1) (.int 3))) mMill_4
noncomputable def mMill_2 : S := .seq (.asg (.attr (.loc 0) 7) (.idx (.loc 1) (.int 2))) mMill_3
noncomputable def mMill_1 : S := .seq (.asg (.attr (.loc 0) 6) (.idx (.loc 1) (.int 1))) mMill_2
noncomputable def mMill_0 : S := .seq (.asg (.attr (.loc 0) 5) (.idx (.loc 1) (.int 0))) mMill_1
noncomputable def mMill : Fn := ⟨4, 4, mMill_0⟩
noncomputable def mTook_2 : S := .seq (.ret (.bool false)) .skip
noncomputable def mTook_1 : S := .seq (.asg (.attr (.loc 0) 11) (.tup [(.attr (.loc 0) 9), (.str 33), (.int 0)])) mTook_2
noncomputable def mTook_4 : S := .seq (.ret (.bool true)) .skip
noncomputable def mTook_3 : S := .seq (.asg (.attr (.loc 0) 8) (.bin .sub (.attr (.loc 0) 8) (.int 1))) mTook_4
noncomputable def mTook_0 : S := .seq (.if_ (.cmp .eq (.attr (.loc 0) 8) (.int 0)) mTook_1 .skip) mTook_3
noncomputable def mTook : Fn := ⟨1, 1, mTook_0⟩
noncomputable def mFault_6 : S := .seq (.ret .none) .skip
noncomputable def mFault_5 : S := .seq (.asg (.attr (.loc 2) 2) (.loc 3)) mFault_6
noncomputable def mFault_4 : S := .seq (.asg (.attr (.loc 2) 4) (.lst [(.loc 1)])) mFault_5
noncomputable def mFault_7 : S := .seq (.expr (.meth (.attr (.loc 0) 10) 1 [])) .skip
noncomputable def mFault_3 : S := .seq (.if_ (.cmp .isnot (.loc 3) .none) mFault_4 .skip) mFault_7
noncomputable def mFault_2 : S := .seq (.asg (.loc 3) (.call 0 [(.attr (.loc 0) 6), (.attr (.loc 2) 2)])) mFault_3
noncomputable def mFault_1 : S := .seq (.asg (.loc 2) (.idx (.attr (.loc 0) 10) (.int (-1)))) mFault_2
noncomputable def mFault_8 : S := .seq (.asg (.attr (.loc 0) 11) (.tup [(.attr (.loc 0) 9), (.str 13), (.loc 1)])) .skip
noncomputable def mFault_0 : S := .seq (.while_ (.cmp .gt (.bi .len [(.attr (.loc 0) 10)]) (.int 0)) mFault_1) mFault_8
noncomputable def mFault : Fn := ⟨2, 4, mFault_0⟩
noncomputable def mCall_1 : S := .seq (.ret .none) .skip
noncomputable def mCall_3 : S := .seq (.expr (.meth (.loc 0) 13 [(.int 102)])) .skip
noncomputable def mCall_4 : S := .seq (.expr (.meth (.attr (.loc 0) 10) 0 [(.new 0 [(.idx (.attr (.loc 0) 7) (.loc 1)), (.attr (.loc 0) 3), (.loc 2)])])) .skip
noncomputable def mCall_2 : S := .seq (.if_ (.cmp .eq (.bi .len [(.attr (.loc 0) 10)]) (.int 8)) mCall_3 mCall_4) .skip
noncomputable def mCall_0 : S := .seq (.if_ (.not_ (.meth (.loc 0) 12 [])) mCall_1 .skip) mCall_2
noncomputable def mCall : Fn := ⟨3, 3, mCall_0⟩
noncomputable def mBack_2 : S := .seq (.asg (.attr (.loc 0) 11) (.tup [(.attr (.loc 0) 9), (.str 34), (.loc 1)])) .skip
noncomputable def mBack_4 : S := .seq (.asg (.attr (.idx (.attr (.loc 0) 10) (.int (-1))) 2) (.bin .add (.attr (.idx (.attr (.loc 0) 10) (.int (-1))) 2) (.int 1))) .skip
noncomputable def mBack_3 : S := .seq (.expr (.meth (.attr (.idx (.attr (.loc 0) 10) (.int (-1))) 4) 0 [(.loc 1)])) mBack_4
noncomputable def mBack_1 : S := .seq (.if_ (.cmp .eq (.bi .len [(.attr (.loc 0) 10)]) (.int 0)) mBack_2 mBack_3) .skip
noncomputable def mBack_0 : S := .seq (.expr (.meth (.attr (.loc 0) 10) 1 [])) mBack_1
noncomputable def mBack : Fn := ⟨2, 2, mBack_0⟩
noncomputable def mReck_4 : S := .seq (.ret .none) .skip
noncomputable def mReck_3 : S := .seq (.expr (.meth (.loc 0) 13 [(.int 101)])) mReck_4
noncomputable def mReck_6 : S := .seq (.expr (.meth (.attr (.loc 1) 4) 0 [(.bin .add (.loc 4) (.loc 3))])) .skip
noncomputable def mReck_8 : S := .seq (.expr (.meth (.attr (.loc 1) 4) 0 [(.bin .sub (.loc 4) (.loc 3))])) .skip
noncomputable def mReck_10 : S := .seq (.expr (.meth (.attr (.loc 1) 4) 0 [(.bi .int [(.cmp .lt (.loc 4) (.loc 3))])])) .skip
noncomputable def mReck_11 : S := .seq (.expr (.meth (.attr (.loc 1) 4) 0 [(.bin .div (.loc 4) (.loc 3))])) .skip
noncomputable def mReck_9 : S := .seq (.if_ (.cmp .eq (.loc 2) (.str 26)) mReck_10 mReck_11) .skip
noncomputable def mReck_7 : S := .seq (.if_ (.cmp .eq (.loc 2) (.str 25)) mReck_8 mReck_9) .skip
noncomputable def mReck_12 : S := .seq (.asg (.attr (.loc 1) 2) (.bin .add (.attr (.loc 1) 2) (.int 1))) .skip
noncomputable def mReck_5 : S := .seq (.if_ (.cmp .eq (.loc 2) (.str 24)) mReck_6 mReck_7) mReck_12
noncomputable def mReck_2 : S := .seq (.if_ (.and_ (.cmp .eq (.loc 2) (.str 27)) (.cmp .eq (.loc 3) (.int 0))) mReck_3 .skip) mReck_5
noncomputable def mReck_1 : S := .seq (.asg (.loc 4) (.meth (.attr (.loc 1) 4) 1 [])) mReck_2
noncomputable def mReck_0 : S := .seq (.asg (.loc 3) (.meth (.attr (.loc 1) 4) 1 [])) mReck_1
noncomputable def mReck : Fn := ⟨3, 5, mReck_0⟩
noncomputable def mLeap_1 : S := .seq (.asg (.attr (.loc 1) 2) (.idx (.loc 2) (.int 1))) .skip
noncomputable def mLeap_3 : S := .seq (.asg (.attr (.loc 1) 2) (.idx (.attr (.loc 1) 3) (.idx (.loc 2) (.int 1)))) .skip
noncomputable def mLeap_5 : S := .seq (.asg (.attr (.loc 1) 2) (.idx (.loc 2) (.int 1))) .skip
noncomputable def mLeap_6 : S := .seq (.asg (.attr (.loc 1) 2) (.bin .add (.attr (.loc 1) 2) (.int 1))) .skip
noncomputable def mLeap_4 : S := .seq (.if_ (.cmp .eq (.meth (.attr (.loc 1) 4) 1 []) (.int 0)) mLeap_5 mLeap_6) .skip
noncomputable def mLeap_2 : S := .seq (.if_ (.cmp .eq (.idx (.loc 2) (.int 0)) (.str 30)) mLeap_3 mLeap_4) .skip
noncomputable def mLeap_0 : S := .seq (.if_ (.cmp .eq (.idx (.loc 2) (.int 0)) (.str 28)) mLeap_1 mLeap_2) .skip
noncomputable def mLeap : Fn := ⟨3, 3, mLeap_0⟩
noncomputable def mPlain_1 : S := .seq (.expr (.meth (.attr (.loc 1) 4) 0 [(.idx (.loc 2) (.int 1))])) .skip
noncomputable def mPlain_3 : S := .seq (.expr (.meth (.attr (.loc 1) 4) 0 [(.idx (.attr (.loc 1) 3) (.idx (.loc 2) (.int 1)))])) .skip
noncomputable def mPlain_5 : S := .seq (.asg (.idx (.attr (.loc 1) 3) (.idx (.loc 2) (.int 1))) (.meth (.attr (.loc 1) 4) 1 [])) .skip
noncomputable def mPlain_7 : S := .seq (.expr (.meth (.attr (.loc 0) 9) 0 [(.meth (.attr (.loc 1) 4) 1 [])])) .skip
noncomputable def mPlain_9 : S := .seq (.ret .none) .skip
noncomputable def mPlain_8 : S := .seq (.if_ (.not_ (.meth (.loc 0) 12 [])) mPlain_9 .skip) .skip
noncomputable def mPlain_6 : S := .seq (.if_ (.cmp .eq (.idx (.loc 2) (.int 0)) (.str 23)) mPlain_7 mPlain_8) .skip
noncomputable def mPlain_4 : S := .seq (.if_ (.cmp .eq (.idx (.loc 2) (.int 0)) (.str 22)) mPlain_5 mPlain_6) .skip
noncomputable def mPlain_2 : S := .seq (.if_ (.cmp .eq (.idx (.loc 2) (.int 0)) (.str 21)) mPlain_3 mPlain_4) .skip
noncomputable def mPlain_10 : S := .seq (.asg (.attr (.loc 1) 2) (.bin .add (.attr (.loc 1) 2) (.int 1))) .skip
noncomputable def mPlain_0 : S := .seq (.if_ (.cmp .eq (.idx (.loc 2) (.int 0)) (.str 20)) mPlain_1 mPlain_2) mPlain_10
noncomputable def mPlain : Fn := ⟨3, 3, mPlain_0⟩
noncomputable def mStep_4 : S := .seq (.expr (.meth (.loc 0) 14 [(.idx (.loc 2) (.int 1)), (.meth (.attr (.loc 1) 4) 1 [])])) .skip
noncomputable def mStep_6 : S := .seq (.expr (.meth (.loc 0) 15 [(.meth (.attr (.loc 1) 4) 1 [])])) .skip
noncomputable def mStep_8 : S := .seq (.expr (.meth (.loc 0) 13 [(.meth (.attr (.loc 1) 4) 1 [])])) .skip
noncomputable def mStep_10 : S := .seq (.expr (.meth (.loc 0) 16 [(.loc 1), (.loc 3)])) .skip
noncomputable def mStep_12 : S := .seq (.expr (.meth (.loc 0) 17 [(.loc 1), (.loc 2)])) .skip
noncomputable def mStep_13 : S := .seq (.expr (.meth (.loc 0) 18 [(.loc 1), (.loc 2)])) .skip
noncomputable def mStep_11 : S := .seq (.if_ (.cmp .in_ (.loc 3) (.tup [(.str 28), (.str 29), (.str 30)])) mStep_12 mStep_13) .skip
noncomputable def mStep_9 : S := .seq (.if_ (.cmp .in_ (.loc 3) (.tup [(.str 24), (.str 25), (.str 26), (.str 27)])) mStep_10 mStep_11) .skip
noncomputable def mStep_7 : S := .seq (.if_ (.cmp .eq (.loc 3) (.str 31)) mStep_8 mStep_9) .skip
noncomputable def mStep_5 : S := .seq (.if_ (.cmp .eq (.loc 3) (.str 15)) mStep_6 mStep_7) .skip
noncomputable def mStep_3 : S := .seq (.if_ (.cmp .eq (.loc 3) (.str 14)) mStep_4 mStep_5) .skip
noncomputable def mStep_2 : S := .seq (.asg (.loc 3) (.idx (.loc 2) (.int 0))) mStep_3
noncomputable def mStep_1 : S := .seq (.asg (.loc 2) (.idx (.attr (.loc 0) 5) (.attr (.loc 1) 2))) mStep_2
noncomputable def mStep_0 : S := .seq (.asg (.loc 1) (.idx (.attr (.loc 0) 10) (.int (-1)))) mStep_1
noncomputable def mStep : Fn := ⟨1, 4, mStep_0⟩
noncomputable def mRun_2 : S := .seq (.expr (.meth (.loc 3) 19 [])) .skip
noncomputable def mRun_3 : S := .seq (.ret (.attr (.loc 3) 11)) .skip
noncomputable def mRun_1 : S := .seq (.while_ (.cmp .is_ (.attr (.loc 3) 11) .none) mRun_2) mRun_3
noncomputable def mRun_0 : S := .seq (.asg (.loc 3) (.new 1 [(.loc 0), (.loc 1), (.loc 2)])) mRun_1
noncomputable def mRun : Fn := ⟨3, 4, mRun_0⟩
end Mine

end
noncomputable section
namespace Mine

structure MG (g : Genv) : Prop where
  f0 : g.fn 0 = some mGoal
  f1 : g.fn 1 = some mEnt
  f2 : g.fn 2 = some mMill
  f3 : g.fn 3 = some mTook
  f4 : g.fn 4 = some mFault
  f5 : g.fn 5 = some mCall
  f6 : g.fn 6 = some mBack
  f7 : g.fn 7 = some mReck
  f8 : g.fn 8 = some mLeap
  f9 : g.fn 9 = some mPlain
  f10 : g.fn 10 = some mStep
  f11 : g.fn 11 = some mRun
  m12 : g.meth 1 12 = some 3
  m13 : g.meth 1 13 = some 4
  m14 : g.meth 1 14 = some 5
  m15 : g.meth 1 15 = some 6
  m16 : g.meth 1 16 = some 7
  m17 : g.meth 1 17 = some 8
  m18 : g.meth 1 18 = some 9
  m19 : g.meth 1 19 = some 10
  i0 : g.init 0 = some 1
  i1 : g.init 1 = some 2
  a02 : g.at_ 0 2 = true
  a03 : g.at_ 0 3 = true
  a04 : g.at_ 0 4 = true
  a13 : g.at_ 1 3 = true
  a15 : g.at_ 1 5 = true
  a16 : g.at_ 1 6 = true
  a17 : g.at_ 1 7 = true
  a18 : g.at_ 1 8 = true
  a19 : g.at_ 1 9 = true
  a110 : g.at_ 1 10 = true
  a111 : g.at_ 1 11 = true

inductive Ari where | add | sub | less | share
  deriving DecidableEq
inductive Row where
  | put (i : Int) | get (k : Int) | set (k : Int) | say | ari (w : Ari) | go (p : Int) | nought (p : Int) | on (k : Int) | turn | call (f : Int) | back | raise
noncomputable def Ari.w : Ari → Nat
  | .add => 24 | .sub => 25 | .less => 26 | .share => 27
noncomputable def Row.v : Row → V
  | .put i => .tup [.str 20, .int i]
  | .get i => .tup [.str 21, .int i]
  | .set i => .tup [.str 22, .int i]
  | .say => .tup [.str 23]
  | .ari a => .tup [.str a.w]
  | .go i => .tup [.str 28, .int i]
  | .nought i => .tup [.str 29, .int i]
  | .on i => .tup [.str 30, .int i]
  | .turn => .tup [.str 32]
  | .call i => .tup [.str 14, .int i]
  | .back => .tup [.str 15]
  | .raise => .tup [.str 31]

structure Fr where
  pl : Int
  bx : List Int
  pi : List Int
structure Co where
  code : List Row
  str : List (Int × Int × Int)
  beg : List Int
  nb : Int
structure Ma where
  fr : List Fr
  said : List Int
  turns : Int
  told : Option (Nat × Int)

noncomputable def goalOf : List (Int × Int × Int) → Int → Option Int
  | [], _ => none
  | (a, b, c) :: r, p => if a ≤ p ∧ p < b then some c else goalOf r p
noncomputable def faultF (str : List (Int × Int × Int)) (n : Int) : List Fr → List Fr
  | [] => []
  | f :: r => match goalOf str f.pl with
    | some c => ⟨c, f.bx, [n]⟩ :: r
    | none => faultF str n r
noncomputable def Ma.fault (c : Co) (n : Int) (s : Ma) : Ma := match faultF c.str n s.fr with
  | [] => { s with fr := [], told := some (13, n) }
  | f :: r => { s with fr := f :: r }
noncomputable def lAt {α : Type} (xs : List α) (i : Int) : Option α := if 0 ≤ i then xs[i.toNat]? else none
noncomputable def Ari.do : Ari → Int → Int → Int
  | .add, a, b => a + b
  | .sub, a, b => a - b
  | .less, a, b => if a < b then 1 else 0
  | .share, a, b => a.fdiv b
noncomputable def boxes0 (nb n : Int) : List Int := n :: List.replicate (nb - 1).toNat 0

noncomputable def mrow (c : Co) (s : Ma) (f : Fr) (r : List Fr) : Row → Option Ma
  | .put i => if f.pi.length < lim then some { s with fr := ⟨f.pl + 1, f.bx, f.pi ++ [i]⟩ :: r } else none
  | .get k => match lAt f.bx k with
    | some i => if f.pi.length < lim then some { s with fr := ⟨f.pl + 1, f.bx, f.pi ++ [i]⟩ :: r } else none
    | none => none
  | .set k => match f.pi.getLast? with
    | some i => if 0 ≤ k ∧ k < f.bx.length then some { s with fr := ⟨f.pl + 1, f.bx.set k.toNat i, f.pi.dropLast⟩ :: r } else none
    | none => none
  | .say => match f.pi.getLast? with
    | some i => if s.said.length < lim then some { s with fr := ⟨f.pl + 1, f.bx, f.pi.dropLast⟩ :: r, said := s.said ++ [i] } else none
    | none => none
  | .ari w => match f.pi.getLast?, f.pi.dropLast.getLast? with
    | some b, some a => if w = .share ∧ b = 0 then some ({ s with fr := ⟨f.pl, f.bx, f.pi.dropLast.dropLast⟩ :: r }.fault c 101) else if f.pi.length ≤ lim then some { s with fr := ⟨f.pl + 1, f.bx, f.pi.dropLast.dropLast ++ [w.do a b]⟩ :: r } else none
    | _, _ => none
  | .go p => some { s with fr := ⟨p, f.bx, f.pi⟩ :: r }
  | .nought p => match f.pi.getLast? with
    | some i => some { s with fr := ⟨if i = 0 then p else f.pl + 1, f.bx, f.pi.dropLast⟩ :: r }
    | none => none
  | .on k => match lAt f.bx k with
    | some p => some { s with fr := ⟨p, f.bx, f.pi⟩ :: r }
    | none => none
  | .turn => if s.turns = 0 then some { s with fr := f :: r, told := some (33, 0) } else some { s with fr := ⟨f.pl + 1, f.bx, f.pi⟩ :: r, turns := s.turns - 1 }
  | .call k => match f.pi.getLast? with
    | some i => if s.turns = 0 then some { s with fr := ⟨f.pl, f.bx, f.pi.dropLast⟩ :: r, told := some (33, 0) }
      else if r.length = 7 then some ({ s with fr := ⟨f.pl, f.bx, f.pi.dropLast⟩ :: r, turns := s.turns - 1 }.fault c 102)
      else match lAt c.beg k with
        | some p => if 0 ≤ c.nb ∧ c.nb ≤ 1000 then some { s with fr := ⟨p, boxes0 c.nb i, []⟩ :: ⟨f.pl, f.bx, f.pi.dropLast⟩ :: r, turns := s.turns - 1 } else none
        | none => none
    | none => none
  | .back => match f.pi.getLast? with
    | some i => match r with
      | [] => some { s with fr := [], told := some (34, i) }
      | f' :: r' => if f'.pi.length < lim then some { s with fr := ⟨f'.pl + 1, f'.bx, f'.pi ++ [i]⟩ :: r' } else none
    | none => none
  | .raise => match f.pi.getLast? with
    | some i => some ({ s with fr := ⟨f.pl, f.bx, f.pi.dropLast⟩ :: r }.fault c i)
    | none => none
noncomputable def mstep (c : Co) (s : Ma) : Option Ma := match s.fr with
  | [] => none
  | f :: r => match lAt c.code f.pl with
    | none => none
    | some row => mrow c s f r row

structure FA where
  a : Nat
  b : Nat
  p : Nat
structure MA where
  m : Nat
  said : Nat
  frs : Nat
  rows : Nat
  str : Nat
  beg : Nat

noncomputable def frC (x : FA × Fr) : List Cell := [(x.1.a, .inst 0 [(2, .int x.2.pl), (3, .ref x.1.b), (4, .ref x.1.p)]), (x.1.b, iL x.2.bx), (x.1.p, iL x.2.pi)]
noncomputable def frCs : List (FA × Fr) → List Cell
  | [] => []
  | x :: r => frC x ++ frCs r
noncomputable def toldV (said : Nat) : Option (Nat × Int) → V
  | none => .none
  | some (w, n) => .tup [.ref said, .str w, .int n]
noncomputable def milO (A : MA) (nb turns : Int) (told : V) : O := .inst 1 [(5, .ref A.rows), (6, .ref A.str), (7, .ref A.beg), (3, .int nb), (8, .int turns), (9, .ref A.said), (10, .ref A.frs), (11, told)]
noncomputable def frsO (fs : List (FA × Fr)) : O := .list (fs.map fun x => V.ref x.1.a).reverse
noncomputable def cells (A : MA) (nb : Int) (fs : List (FA × Fr)) (said : List Int) (turns : Int) (told : V) : List Cell :=
  (A.m, milO A nb turns told) :: (A.said, iL said) :: (A.frs, frsO fs) :: frCs fs
noncomputable def strV (x : Int × Int × Int) : V := .tup [.int x.1, .int x.2.1, .int x.2.2]

structure Src (b : Nat) (h : Hp) (A : MA) (c : Co) : Prop where
  rl : A.rows < b
  sl : A.str < b
  bl : A.beg < b
  r : h[A.rows]? = some (.list (c.code.map Row.v))
  s : h[A.str]? = some (.list (c.str.map strV))
  b : h[A.beg]? = some (iL c.beg)
theorem Src.keep {b : Nat} {h h' : Hp} {A : MA} {c : Co} (x : Src b h A c) (k : Keep b h h') : Src b h' A c :=
  ⟨x.rl, x.sl, x.bl, (k.2 _ x.rl).trans x.r, (k.2 _ x.sl).trans x.s, (k.2 _ x.bl).trans x.b⟩

theorem rangeL_len (lo : Int) : ∀ n : Nat, (rangeL lo n).length = n
  | 0 => rfl
  | n + 1 => by simp only [rangeL, List.length_cons, rangeL_len (lo + 1) n]

section
variable {g : Genv} (M : MG g)
include M

theorem goal_ok {r : Nat} {h : Hp} {a : Nat} {p : Int} {Q : V → Hp → Prop} {X : Nat → Hp → Prop} {str : List (Int × Int × Int)} (ha : h[a]? = some (.list (str.map strV)))
    (hQ : Q (match goalOf str p with | some c => .int c | none => .none) h) : callWp g (r + 2) 0 [.ref a, .int p] h Q X := by
  refine call_enter M.f0 rfl (by decide) ?_
  generalize callWp g (r + 1) = C
  generalize callWp g r = N
  simp only [mGoal, mGoal_0, wS_skip, wS_seq, wS_expr, wS_asg, wS_if_, wS_while_, wS_for_, wS_ret, wS_raise, wE_none, wE_bool, wE_int, wE_str, wE_loc, wE_glob, wE_bin, wE_not_, wE_cmp, wE_cmp2, wE_and_, wE_or_, wE_ite, wE_tup, wE_lst, wE_dct, wE_idx, wE_slc, wE_attr, wE_call, wE_new, wE_meth, wE_bi, wE_isi, wE_comp, getL, List.map_cons, List.map_nil, List.cons_append, List.nil_append, List.getElem?_cons_zero, onSome_some, it_list ha]
  refine for_ind (fun xs σ => σ.hp = h ∧ (∃ u v w, σ.loc = [some (.ref a), some (.int p), u, v, w]) ∧ ∃ s, xs = s.map strV ∧ Q (match goalOf s p with | some c => .int c | none => .none) h) ?_ ?_ _ _ ⟨rfl, ⟨_, _, _, rfl⟩, str, rfl, hQ⟩
  · rintro ⟨l, hp⟩ ⟨rfl, ⟨u, v, w, e⟩, s, es, q⟩
    cases s with
    | cons _ _ => cases es
    | nil =>
      refine ⟨ha, ?_⟩
      simp only [mGoal_3, wS_skip, wS_seq, wS_expr, wS_asg, wS_if_, wS_while_, wS_for_, wS_ret, wS_raise, wE_none, wE_bool, wE_int, wE_str, wE_loc, wE_glob, wE_bin, wE_not_, wE_cmp, wE_cmp2, wE_and_, wE_or_, wE_ite, wE_tup, wE_lst, wE_dct, wE_idx, wE_slc, wE_attr, wE_call, wE_new, wE_meth, wE_bi, wE_isi, wE_comp]
      exact q
  · rintro x xs ⟨l, hp⟩ K ⟨rfl, ⟨u, v, w, e⟩, s, es, q⟩ hK
    simp only at e
    subst e
    cases s with
    | nil => cases es
    | cons y s =>
      cases es
      obtain ⟨y1, y2, y3⟩ := y
      refine ⟨ha, ?_⟩
      simp only [strV, bindT, bindAll, mGoal_1, mGoal_2, wS_skip, wS_seq, wS_expr, wS_asg, wS_if_, wS_while_, wS_for_, wS_ret, wS_raise, wE_none, wE_bool, wE_int, wE_str, wE_loc, wE_glob, wE_bin, wE_not_, wE_cmp, wE_cmp2, wE_and_, wE_or_, wE_ite, wE_tup, wE_lst, wE_dct, wE_idx, wE_slc, wE_attr, wE_call, wE_new, wE_meth, wE_bi, wE_isi, wE_comp, wEs_nil, wEs_cons, wT_loc, wT_attr, wT_idx, wT_unp, wC_nil, wC_cons, onSome_some, isB_bool, cmp_eq, cmp_ne, cmp_lt, cmp_le, cmp_gt, cmp_ge, cmp_is_nn, cmp_is_in, cmp_is_tn, cmp_is_sn, cmp_isn_nn, cmp_isn_in, cmp_isn_tn, cmp_in_t, eqop_int, eqop_str, eqop_nn, eqop_ni, eqop_in, eqop_ns, eqop_sn, bin_add, bin_sub, idx_tup, bi_lent, bi_intb, getL0, getLs, seq0, seq1, seq2, seq3, List.map_cons, List.map_nil, List.cons_append, List.nil_append, List.set_cons_zero, List.set_cons_succ, List.length_cons, List.length_nil, Nat.reduceLT, Nat.reduceAdd, Nat.reduceSub, Nat.reduceEqDiff, if_true, if_false, decide_true, decide_false, Option.map_some, Option.map_none, Bool.not_true, Bool.not_false, getK, putK, List.replicate_succ, List.replicate_zero, true_and, and_true, List.isEmpty_nil, List.isEmpty_cons, asRef_ref, setO_list, Option.bind_some]
      simp only [goalOf] at q
      by_cases c1 : y1 ≤ p
      · simp only [c1, decide_true, onSome_some, isB]
        by_cases c2 : p < y2
        · simp only [c2, decide_true, onSome_some, isB]
          rw [if_pos ⟨c1, c2⟩] at q
          exact q
        · simp only [c2, decide_false, onSome_some, isB]
          rw [if_neg (fun z => c2 z.2)] at q
          exact hK _ ⟨rfl, ⟨_, _, _, rfl⟩, s, rfl, q⟩
      · simp only [c1, decide_false, onSome_some, isB]
        rw [if_neg (fun z => c1 z.1)] at q
        exact hK _ ⟨rfl, ⟨_, _, _, rfl⟩, s, rfl, q⟩

theorem took_ok {r : Nat} {h : Hp} {A : MA} {nb turns : Int} {Q : V → Hp → Prop} {X : Nat → Hp → Prop} (hm : h[A.m]? = some (milO A nb turns .none))
    (h1 : turns = 0 → Q (.bool false) (h.set A.m (milO A nb turns (.tup [.ref A.said, .str 33, .int 0]))))
    (h2 : turns ≠ 0 → Q (.bool true) (h.set A.m (milO A nb (turns - 1) .none))) : callWp g (r + 2) 3 [.ref A.m] h Q X := by
  refine call_enter M.f3 rfl (by decide) ?_
  generalize callWp g (r + 1) = C
  generalize callWp g r = N
  unfold milO at *
  by_cases c : turns = 0
  · subst c
    simp only [mTook, mTook_0, mTook_1, mTook_2, mTook_3, mTook_4, wS_skip, wS_seq, wS_expr, wS_asg, wS_if_, wS_while_, wS_for_, wS_ret, wS_raise, wE_none, wE_bool, wE_int, wE_str, wE_loc, wE_glob, wE_bin, wE_not_, wE_cmp, wE_cmp2, wE_and_, wE_or_, wE_ite, wE_tup, wE_lst, wE_dct, wE_idx, wE_slc, wE_attr, wE_call, wE_new, wE_meth, wE_bi, wE_isi, wE_comp, wEs_nil, wEs_cons, wT_loc, wT_attr, wT_idx, wT_unp, wC_nil, wC_cons, onSome_some, isB_bool, cmp_eq, cmp_ne, cmp_lt, cmp_le, cmp_gt, cmp_ge, cmp_is_nn, cmp_is_in, cmp_is_tn, cmp_is_sn, cmp_isn_nn, cmp_isn_in, cmp_isn_tn, cmp_in_t, eqop_int, eqop_str, eqop_nn, eqop_ni, eqop_in, eqop_ns, eqop_sn, bin_add, bin_sub, idx_tup, bi_lent, bi_intb, getL0, getLs, seq0, seq1, seq2, seq3, List.map_cons, List.map_nil, List.cons_append, List.nil_append, List.set_cons_zero, List.set_cons_succ, List.length_cons, List.length_nil, Nat.reduceLT, Nat.reduceAdd, Nat.reduceSub, Nat.reduceEqDiff, if_true, if_false, decide_true, decide_false, Option.map_some, Option.map_none, Bool.not_true, Bool.not_false, getK, putK, List.replicate_succ, List.replicate_zero, true_and, and_true, List.isEmpty_nil, List.isEmpty_cons, asRef_ref, setO_list, Option.bind_some, hm, M.a18, M.a19, M.a111]
    exact h1 rfl
  · simp only [mTook, mTook_0, mTook_1, mTook_2, mTook_3, mTook_4, wS_skip, wS_seq, wS_expr, wS_asg, wS_if_, wS_while_, wS_for_, wS_ret, wS_raise, wE_none, wE_bool, wE_int, wE_str, wE_loc, wE_glob, wE_bin, wE_not_, wE_cmp, wE_cmp2, wE_and_, wE_or_, wE_ite, wE_tup, wE_lst, wE_dct, wE_idx, wE_slc, wE_attr, wE_call, wE_new, wE_meth, wE_bi, wE_isi, wE_comp, wEs_nil, wEs_cons, wT_loc, wT_attr, wT_idx, wT_unp, wC_nil, wC_cons, onSome_some, isB_bool, cmp_eq, cmp_ne, cmp_lt, cmp_le, cmp_gt, cmp_ge, cmp_is_nn, cmp_is_in, cmp_is_tn, cmp_is_sn, cmp_isn_nn, cmp_isn_in, cmp_isn_tn, cmp_in_t, eqop_int, eqop_str, eqop_nn, eqop_ni, eqop_in, eqop_ns, eqop_sn, bin_add, bin_sub, idx_tup, bi_lent, bi_intb, getL0, getLs, seq0, seq1, seq2, seq3, List.map_cons, List.map_nil, List.cons_append, List.nil_append, List.set_cons_zero, List.set_cons_succ, List.length_cons, List.length_nil, Nat.reduceLT, Nat.reduceAdd, Nat.reduceSub, Nat.reduceEqDiff, if_true, if_false, decide_true, decide_false, Option.map_some, Option.map_none, Bool.not_true, Bool.not_false, getK, putK, List.replicate_succ, List.replicate_zero, true_and, and_true, List.isEmpty_nil, List.isEmpty_cons, asRef_ref, setO_list, Option.bind_some, hm, M.a18, M.a19, M.a111, c]
    exact h2 c

omit M in

noncomputable def KeepN (a : Nat) (h h' : Hp) : Prop := ∀ c, c < h.length → c ≠ a → c < h'.length ∧ h'[c]? = h[c]?
omit M in
theorem KeepN.refl (a : Nat) (h : Hp) : KeepN a h h := fun _ hc _ => ⟨hc, rfl⟩
omit M in
theorem KeepN.set {a : Nat} {h h' : Hp} (x : KeepN a h h') (o : O) : KeepN a h (h'.set a o) := fun c hc hn => ⟨by rw [List.length_set]; exact (x c hc hn).1, by rw [List.getElem?_set_ne (Ne.symm hn)]; exact (x c hc hn).2⟩
omit M in
theorem KeepN.app {a : Nat} {h h' : Hp} (x : KeepN a h h') (o : O) : KeepN a h (h' ++ [o]) := fun c hc hn => ⟨by rw [List.length_append]; exact Nat.lt_of_lt_of_le (x c hc hn).1 (Nat.le_add_right _ _), by rw [List.getElem?_append_left (x c hc hn).1]; exact (x c hc hn).2⟩

omit M in
theorem zeros_c {C N : Oracle} {h : Hp} {loc : Locs} {src : E} {n : Int} {Q : V → Hp → Prop} {X : Nat → Hp → Prop} (hn : -1000 ≤ n ∧ n ≤ 1000) (hs : ∀ Q', Q' (.int n) h → wpE g C N loc src h Q' X) (hQ : Q (.ref h.length) (h ++ [.list (List.replicate n.toNat (.int 0))])) :
    wpE g C N loc (.comp 2 [] [1] .range src [] (.int 0)) h Q X := by
  rw [wE_comp]
  refine hs _ ?_
  rw [it_range ⟨hn.1, Int.le_trans hn.2 (by decide)⟩, onSome_some]
  refine comp_ind (fun xs l acc hh => hh = h ∧ l.length = 2 ∧ acc.length + xs.length = n.toNat ∧ ∀ y ∈ acc, y = .int 0) ?_ ?_ _ _ _ _ ⟨rfl, rfl, by rw [rangeL_len]; exact Nat.zero_add _, fun _ z => (by cases z)⟩
  · rintro l acc hh ⟨rfl, _, h3, h4⟩
    refine ⟨trivial, ?_⟩
    rw [show acc = List.replicate n.toNat (.int 0) from List.eq_replicate_iff.mpr ⟨h3, h4⟩]
    exact hQ
  · rintro x xs l acc hh K ⟨rfl, h2, h3, h4⟩ hK
    refine ⟨trivial, ?_⟩
    simp only [bindT, h2, wS_skip, wS_seq, wS_expr, wS_asg, wS_if_, wS_while_, wS_for_, wS_ret, wS_raise, wE_none, wE_bool, wE_int, wE_str, wE_loc, wE_glob, wE_bin, wE_not_, wE_cmp, wE_cmp2, wE_and_, wE_or_, wE_ite, wE_tup, wE_lst, wE_dct, wE_idx, wE_slc, wE_attr, wE_call, wE_new, wE_meth, wE_bi, wE_isi, wE_comp, wEs_nil, wEs_cons, wT_loc, wT_attr, wT_idx, wT_unp, wC_nil, wC_cons, onSome_some, isB_bool, cmp_eq, cmp_ne, cmp_lt, cmp_le, cmp_gt, cmp_ge, cmp_is_nn, cmp_is_in, cmp_is_tn, cmp_is_sn, cmp_isn_nn, cmp_isn_in, cmp_isn_tn, cmp_in_t, eqop_int, eqop_str, eqop_nn, eqop_ni, eqop_in, eqop_ns, eqop_sn, bin_add, bin_sub, idx_tup, bi_lent, bi_intb, getL0, getLs, seq0, seq1, seq2, seq3, List.map_cons, List.map_nil, List.cons_append, List.nil_append, List.set_cons_zero, List.set_cons_succ, List.length_cons, List.length_nil, Nat.reduceLT, Nat.reduceAdd, Nat.reduceSub, Nat.reduceEqDiff, if_true, if_false, decide_true, decide_false, Option.map_some, Option.map_none, Bool.not_true, Bool.not_false, getK, putK, List.replicate_succ, List.replicate_zero, true_and, and_true, List.isEmpty_nil, List.isEmpty_cons, asRef_ref, setO_list, Option.bind_some]
    simp only [List.length_cons] at h3
    refine hK _ _ _ ⟨rfl, by rw [List.length_set]; exact h2, by rw [List.length_append]; simp only [List.length_cons, List.length_nil]; (first | lia | omega), fun y hy => ?_⟩ ?_
    · rcases List.mem_append.mp hy with hy | hy
      · exact h4 y hy
      · cases hy with
        | head => rfl
        | tail _ z => cases z
    · rw [List.length_append]; simp only [List.length_cons, List.length_nil]; unfold lim; (first | lia | omega)

theorem ent_ok {r : Nat} {h : Hp} {a : Nat} {pl nb n : Int} {Q : V → Hp → Prop} {X : Nat → Hp → Prop} (ha : h[a]? = some (.inst 0 [])) (hn : 0 ≤ nb ∧ nb ≤ 1000)
    (hQ : ∀ h' : Hp, h'.length = h.length + 4 → h'[a]? = some (.inst 0 [(2, .int pl), (3, .ref (h.length + 2)), (4, .ref (h.length + 3))]) → h'[h.length + 2]? = some (iL (boxes0 nb n)) → h'[h.length + 3]? = some (iL []) → (∀ c, c < h.length → c ≠ a → h'[c]? = h[c]?) → Q .none h') :
    callWp g (r + 2) 1 [.ref a, .int pl, .int nb, .int n] h Q X := by
  refine call_enter M.f1 rfl (by decide) ?_
  generalize callWp g (r + 1) = C
  generalize callWp g r = N
  have w0 : Own 0 h [(a, .inst 0 [])] := ⟨List.nodup_cons.mpr ⟨fun z => (by cases z), List.nodup_nil⟩, fun x hx => (by cases hx with | head => exact ha | tail _ z => cases z), fun _ _ => Nat.zero_le _, Nat.zero_le _⟩
  have w1 := (w0.set 0 rfl (.inst 0 [(2, .int pl)])).alloc (.list [.int n])
  have l1 : (h.set a (.inst 0 [(2, .int pl)])).length = h.length := List.length_set
  have l2 : (h.set a (.inst 0 [(2, .int pl)]) ++ [O.list [V.int n]]).length = h.length + 1 := by rw [List.length_append, l1]; rfl
  have x2 := ((KeepN.refl a h).set (.inst 0 [(2, .int pl)])).app (.list [.int n])
  rw [l1] at w1
  show wpS g C N mEnt_0 ⟨[some (.ref a), some (.int pl), some (.int nb), some (.int n)], h⟩ _ _ _
  simp only [mEnt_0, wS_skip, wS_seq, wS_expr, wS_asg, wS_if_, wS_while_, wS_for_, wS_ret, wS_raise, wE_none, wE_bool, wE_int, wE_str, wE_loc, wE_glob, wE_bin, wE_not_, wE_cmp, wE_cmp2, wE_and_, wE_or_, wE_ite, wE_tup, wE_lst, wE_dct, wE_idx, wE_slc, wE_attr, wE_call, wE_new, wE_meth, wE_bi, wE_isi, wE_comp, wEs_nil, wEs_cons, wT_loc, wT_attr, wT_idx, wT_unp, wC_nil, wC_cons, onSome_some, isB_bool, cmp_eq, cmp_ne, cmp_lt, cmp_le, cmp_gt, cmp_ge, cmp_is_nn, cmp_is_in, cmp_is_tn, cmp_is_sn, cmp_isn_nn, cmp_isn_in, cmp_isn_tn, cmp_in_t, eqop_int, eqop_str, eqop_nn, eqop_ni, eqop_in, eqop_ns, eqop_sn, bin_add, bin_sub, idx_tup, bi_lent, bi_intb, getL0, getLs, seq0, seq1, seq2, seq3, List.map_cons, List.map_nil, List.cons_append, List.nil_append, List.set_cons_zero, List.set_cons_succ, List.length_cons, List.length_nil, Nat.reduceLT, Nat.reduceAdd, Nat.reduceSub, Nat.reduceEqDiff, if_true, if_false, decide_true, decide_false, Option.map_some, Option.map_none, Bool.not_true, Bool.not_false, getK, putK, List.replicate_succ, List.replicate_zero, true_and, and_true, List.isEmpty_nil, List.isEmpty_cons, asRef_ref, setO_list, Option.bind_some, ha, M.a02]
  rw [mEnt_1, wpS_seq, wS_asg, wE_bin]
  simp only [wE_lst, wEs_cons, wEs_nil, wE_loc, getL0, getLs, onSome_some]
  rw [l1]
  generalize h.set a (.inst 0 [(2, .int pl)]) ++ [O.list [V.int n]] = H1 at *
  refine zeros_c (n := nb - 1) ⟨by (first | lia | omega), by (first | lia | omega)⟩ (fun Q' q => ?_) ?_
  · simp only [wS_skip, wS_seq, wS_expr, wS_asg, wS_if_, wS_while_, wS_for_, wS_ret, wS_raise, wE_none, wE_bool, wE_int, wE_str, wE_loc, wE_glob, wE_bin, wE_not_, wE_cmp, wE_cmp2, wE_and_, wE_or_, wE_ite, wE_tup, wE_lst, wE_dct, wE_idx, wE_slc, wE_attr, wE_call, wE_new, wE_meth, wE_bi, wE_isi, wE_comp, wEs_nil, wEs_cons, wT_loc, wT_attr, wT_idx, wT_unp, wC_nil, wC_cons, onSome_some, isB_bool, cmp_eq, cmp_ne, cmp_lt, cmp_le, cmp_gt, cmp_ge, cmp_is_nn, cmp_is_in, cmp_is_tn, cmp_is_sn, cmp_isn_nn, cmp_isn_in, cmp_isn_tn, cmp_in_t, eqop_int, eqop_str, eqop_nn, eqop_ni, eqop_in, eqop_ns, eqop_sn, bin_add, bin_sub, idx_tup, bi_lent, bi_intb, getL0, getLs, seq0, seq1, seq2, seq3, List.map_cons, List.map_nil, List.cons_append, List.nil_append, List.set_cons_zero, List.set_cons_succ, List.length_cons, List.length_nil, Nat.reduceLT, Nat.reduceAdd, Nat.reduceSub, Nat.reduceEqDiff, if_true, if_false, decide_true, decide_false, Option.map_some, Option.map_none, Bool.not_true, Bool.not_false, getK, putK, List.replicate_succ, List.replicate_zero, true_and, and_true, List.isEmpty_nil, List.isEmpty_cons, asRef_ref, setO_list, Option.bind_some]; exact q
  have w2 := w1.alloc (.list (List.replicate (nb - 1).toNat (.int 0)))
  have x3 := x2.app (.list (List.replicate (nb - 1).toNat (.int 0)))
  have l3 : (H1 ++ [O.list (List.replicate (nb - 1).toNat (V.int 0))]).length = h.length + 2 := by rw [List.length_append, l2]; rfl
  have m2 := bin_addl (w2.get (i := 1) rfl) (w2.get (i := 0) rfl) (by rw [List.length_replicate]; simp only [List.length_cons, List.length_nil]; unfold lim; (first | lia | omega))
  rw [m2, onSome_some]
  generalize H1 ++ [O.list (List.replicate (nb - 1).toNat (V.int 0))] = H2 at *
  have w3 := w2.alloc (iL (boxes0 nb n))
  have x4 := x3.app (iL (boxes0 nb n))
  have l4 : (H2 ++ [iL (boxes0 nb n)]).length = h.length + 3 := by rw [List.length_append, l3]; rfl
  rw [show O.list ([V.int n] ++ List.replicate (nb - 1).toNat (V.int 0)) = iL (boxes0 nb n) by simp only [iL, boxes0, List.map_cons, List.map_replicate]; rfl, l3]
  rw [l3] at w3
  have g3 := w3.get (i := 3) rfl
  have w4 := (w3.set 3 rfl (.inst 0 [(2, .int pl), (3, .ref (h.length + 2))])).alloc (iL [])
  have x5 := (x4.set (.inst 0 [(2, .int pl), (3, .ref (h.length + 2))])).app (iL [])
  simp only [wS_skip, wS_seq, wS_expr, wS_asg, wS_if_, wS_while_, wS_for_, wS_ret, wS_raise, wE_none, wE_bool, wE_int, wE_str, wE_loc, wE_glob, wE_bin, wE_not_, wE_cmp, wE_cmp2, wE_and_, wE_or_, wE_ite, wE_tup, wE_lst, wE_dct, wE_idx, wE_slc, wE_attr, wE_call, wE_new, wE_meth, wE_bi, wE_isi, wE_comp, wEs_nil, wEs_cons, wT_loc, wT_attr, wT_idx, wT_unp, wC_nil, wC_cons, onSome_some, isB_bool, cmp_eq, cmp_ne, cmp_lt, cmp_le, cmp_gt, cmp_ge, cmp_is_nn, cmp_is_in, cmp_is_tn, cmp_is_sn, cmp_isn_nn, cmp_isn_in, cmp_isn_tn, cmp_in_t, eqop_int, eqop_str, eqop_nn, eqop_ni, eqop_in, eqop_ns, eqop_sn, bin_add, bin_sub, idx_tup, bi_lent, bi_intb, getL0, getLs, seq0, seq1, seq2, seq3, List.map_cons, List.map_nil, List.cons_append, List.nil_append, List.set_cons_zero, List.set_cons_succ, List.length_cons, List.length_nil, Nat.reduceLT, Nat.reduceAdd, Nat.reduceSub, Nat.reduceEqDiff, if_true, if_false, decide_true, decide_false, Option.map_some, Option.map_none, Bool.not_true, Bool.not_false, getK, putK, List.replicate_succ, List.replicate_zero, true_and, and_true, List.isEmpty_nil, List.isEmpty_cons, asRef_ref, setO_list, Option.bind_some, g3, M.a03]
  generalize H2 ++ [iL (boxes0 nb n)] = H3 at *
  have l5 : (H3.set a (.inst 0 [(2, .int pl), (3, .ref (h.length + 2))])).length = h.length + 3 := by rw [List.length_set]; exact l4
  rw [l5] at w4
  have g4 := w4.get (i := 4) rfl
  have w5 := w4.set 4 rfl (.inst 0 [(2, .int pl), (3, .ref (h.length + 2)), (4, .ref (h.length + 3))])
  rw [show iL [] = O.list [] from rfl] at g4 w5 x5
  simp only [mEnt_2, wS_skip, wS_seq, wS_expr, wS_asg, wS_if_, wS_while_, wS_for_, wS_ret, wS_raise, wE_none, wE_bool, wE_int, wE_str, wE_loc, wE_glob, wE_bin, wE_not_, wE_cmp, wE_cmp2, wE_and_, wE_or_, wE_ite, wE_tup, wE_lst, wE_dct, wE_idx, wE_slc, wE_attr, wE_call, wE_new, wE_meth, wE_bi, wE_isi, wE_comp, wEs_nil, wEs_cons, wT_loc, wT_attr, wT_idx, wT_unp, wC_nil, wC_cons, onSome_some, isB_bool, cmp_eq, cmp_ne, cmp_lt, cmp_le, cmp_gt, cmp_ge, cmp_is_nn, cmp_is_in, cmp_is_tn, cmp_is_sn, cmp_isn_nn, cmp_isn_in, cmp_isn_tn, cmp_in_t, eqop_int, eqop_str, eqop_nn, eqop_ni, eqop_in, eqop_ns, eqop_sn, bin_add, bin_sub, idx_tup, bi_lent, bi_intb, getL0, getLs, seq0, seq1, seq2, seq3, List.map_cons, List.map_nil, List.cons_append, List.nil_append, List.set_cons_zero, List.set_cons_succ, List.length_cons, List.length_nil, Nat.reduceLT, Nat.reduceAdd, Nat.reduceSub, Nat.reduceEqDiff, if_true, if_false, decide_true, decide_false, Option.map_some, Option.map_none, Bool.not_true, Bool.not_false, getK, putK, List.replicate_succ, List.replicate_zero, true_and, and_true, List.isEmpty_nil, List.isEmpty_cons, asRef_ref, setO_list, Option.bind_some, g4, M.a04, l5]
  refine hQ _ ?_ (w5.get (i := 4) rfl) (w5.get (i := 1) rfl) (w5.get (i := 0) rfl) fun c h1 h2 => ((x5.set _) c h1 h2).2
  rw [List.length_set, List.length_append, l5]; rfl

omit M in
theorem own_top {b : Nat} {h : Hp} {A : MA} {nb turns : Int} {x : FA × Fr} {fs : List (FA × Fr)} {said : List Int} {told : V} (w : Own b h (cells A nb (x :: fs) said turns told)) :
    h[x.1.a]? = some (.inst 0 [(2, .int x.2.pl), (3, .ref x.1.b), (4, .ref x.1.p)]) ∧ h[x.1.b]? = some (.list (x.2.bx.map .int)) ∧ h[x.1.p]? = some (.list (x.2.pi.map .int)) :=
  ⟨w.get (i := 3) rfl, w.get (i := 4) rfl, w.get (i := 5) rfl⟩
omit M in
theorem own_mill {b : Nat} {h : Hp} {A : MA} {nb turns : Int} {fs : List (FA × Fr)} {said : List Int} {told : V} (w : Own b h (cells A nb fs said turns told)) :
    h[A.m]? = some (.inst 1 [(5, .ref A.rows), (6, .ref A.str), (7, .ref A.beg), (3, .int nb), (8, .int turns), (9, .ref A.said), (10, .ref A.frs), (11, told)]) ∧ h[A.said]? = some (.list (said.map .int)) ∧ h[A.frs]? = some (.list (fs.map fun x => V.ref x.1.a).reverse) :=
  ⟨w.get (i := 0) rfl, w.get (i := 1) rfl, w.get (i := 2) rfl⟩

omit M in

theorem own_goal {b : Nat} {h : Hp} {A : MA} {nb turns : Int} {x : FA × Fr} {fs : List (FA × Fr)} {said : List Int} {told : V} (w : Own b h (cells A nb (x :: fs) said turns told)) (n p : Int) :
    Own b (((h ++ [O.list [V.int n]]).set x.1.a (.inst 0 [(2, .int x.2.pl), (3, .ref x.1.b), (4, .ref h.length)])).set x.1.a (.inst 0 [(2, .int p), (3, .ref x.1.b), (4, .ref h.length)])) (cells A nb ((⟨x.1.a, x.1.b, h.length⟩, ⟨p, x.2.bx, [n]⟩) :: fs) said turns told) := by
  have w1 := ((w.alloc (.list [.int n])).set 4 rfl (.inst 0 [(2, .int x.2.pl), (3, .ref x.1.b), (4, .ref h.length)])).set 4 rfl (.inst 0 [(2, .int p), (3, .ref x.1.b), (4, .ref h.length)])
  refine (w1.perm (List.perm_middle (l₁ := [_, _, _, _, _])).symm).sub ?_
  exact .cons_cons _ (.cons_cons _ (.cons_cons _ (.cons_cons _ (.cons_cons _ (.cons_cons _ (.cons _ (List.Sublist.refl _)))))))
omit M in

theorem own_pop {b : Nat} {h : Hp} {A : MA} {nb turns : Int} {x : FA × Fr} {fs : List (FA × Fr)} {said : List Int} {told : V} (w : Own b h (cells A nb (x :: fs) said turns told)) :
    Own b (h.set A.frs (.list (fs.map fun x => V.ref x.1.a).reverse)) (cells A nb fs said turns told) := by
  have w1 := w.set 2 rfl (.list (fs.map fun x => V.ref x.1.a).reverse)
  exact w1.sub (.cons_cons _ (.cons_cons _ (.cons_cons _ (.cons _ (.cons _ (.cons _ (List.Sublist.refl _)))))))

theorem fault_ok {r b : Nat} {h : Hp} {A : MA} {c : Co} {turns n : Int} {fs : List (FA × Fr)} {said : List Int} {Q : V → Hp → Prop} {X : Nat → Hp → Prop}
    (w : Own b h (cells A c.nb fs said turns .none)) (S : Src b h A c)
    (hQ : ∀ h' fs', Own b h' (cells A c.nb fs' said turns (if (faultF c.str n (fs.map (·.2))).isEmpty then .tup [.ref A.said, .str 13, .int n] else .none)) → fs'.map (·.2) = faultF c.str n (fs.map (·.2)) → Keep b h h' → Q .none h') :
    callWp g (r + 3) 4 [.ref A.m, .int n] h Q X := by
  refine call_enter M.f4 rfl (by decide) ?_
  generalize callWp g (r + 1) = N
  show wpS g _ N mFault_0 ⟨[some (.ref A.m), some (.int n), none, none], h⟩ _ _ _
  rw [mFault_0, wpS_seq]
  refine while_ind (fun k σ => ∃ fs1 u v, k = fs1.length ∧ σ.loc = [some (.ref A.m), some (.int n), u, v] ∧ Own b σ.hp (cells A c.nb fs1 said turns .none) ∧ faultF c.str n (fs1.map (·.2)) = faultF c.str n (fs.map (·.2)) ∧ Keep b h σ.hp) ?_ _ _ ⟨fs, none, none, rfl, rfl, w, rfl, Keep.refl _ _⟩
  rintro k ⟨l, hp⟩ K ⟨fs1, u, v, rfl, rfl, w1, e1, k1⟩ hK
  obtain ⟨m1, m2, m3⟩ := own_mill w1
  have S1 := S.keep k1
  dsimp only at m1 m2 m3 w1 k1 ⊢
  cases fs1 with
  | nil =>
    simp only [wS_skip, wS_seq, wS_expr, wS_asg, wS_if_, wS_while_, wS_for_, wS_ret, wS_raise, wE_none, wE_bool, wE_int, wE_str, wE_loc, wE_glob, wE_bin, wE_not_, wE_cmp, wE_cmp2, wE_and_, wE_or_, wE_ite, wE_tup, wE_lst, wE_dct, wE_idx, wE_slc, wE_attr, wE_call, wE_new, wE_meth, wE_bi, wE_isi, wE_comp, wEs_nil, wEs_cons, wT_loc, wT_attr, wT_idx, wT_unp, wC_nil, wC_cons, onSome_some, isB_bool, cmp_eq, cmp_ne, cmp_lt, cmp_le, cmp_gt, cmp_ge, cmp_is_nn, cmp_is_in, cmp_is_tn, cmp_is_sn, cmp_isn_nn, cmp_isn_in, cmp_isn_tn, cmp_in_t, eqop_int, eqop_str, eqop_nn, eqop_ni, eqop_in, eqop_ns, eqop_sn, bin_add, bin_sub, idx_tup, bi_lent, bi_intb, getL0, getLs, seq0, seq1, seq2, seq3, List.map_cons, List.map_nil, List.cons_append, List.nil_append, List.set_cons_zero, List.set_cons_succ, List.length_cons, List.length_nil, Nat.reduceLT, Nat.reduceAdd, Nat.reduceSub, Nat.reduceEqDiff, if_true, if_false, decide_true, decide_false, Option.map_some, Option.map_none, Bool.not_true, Bool.not_false, getK, putK, List.replicate_succ, List.replicate_zero, true_and, and_true, List.isEmpty_nil, List.isEmpty_cons, asRef_ref, setO_list, Option.bind_some, m1, M.a110, bi_len m3]
    simp only [List.map_nil, List.reverse_nil, List.length_nil, Int.ofNat_zero, Int.lt_irrefl, decide_false, mFault_8, wS_skip, wS_seq, wS_expr, wS_asg, wS_if_, wS_while_, wS_for_, wS_ret, wS_raise, wE_none, wE_bool, wE_int, wE_str, wE_loc, wE_glob, wE_bin, wE_not_, wE_cmp, wE_cmp2, wE_and_, wE_or_, wE_ite, wE_tup, wE_lst, wE_dct, wE_idx, wE_slc, wE_attr, wE_call, wE_new, wE_meth, wE_bi, wE_isi, wE_comp, wEs_nil, wEs_cons, wT_loc, wT_attr, wT_idx, wT_unp, wC_nil, wC_cons, onSome_some, isB_bool, cmp_eq, cmp_ne, cmp_lt, cmp_le, cmp_gt, cmp_ge, cmp_is_nn, cmp_is_in, cmp_is_tn, cmp_is_sn, cmp_isn_nn, cmp_isn_in, cmp_isn_tn, cmp_in_t, eqop_int, eqop_str, eqop_nn, eqop_ni, eqop_in, eqop_ns, eqop_sn, bin_add, bin_sub, idx_tup, bi_lent, bi_intb, getL0, getLs, seq0, seq1, seq2, seq3, List.map_cons, List.map_nil, List.cons_append, List.nil_append, List.set_cons_zero, List.set_cons_succ, List.length_cons, List.length_nil, Nat.reduceLT, Nat.reduceAdd, Nat.reduceSub, Nat.reduceEqDiff, if_true, if_false, decide_true, decide_false, Option.map_some, Option.map_none, Bool.not_true, Bool.not_false, getK, putK, List.replicate_succ, List.replicate_zero, true_and, and_true, List.isEmpty_nil, List.isEmpty_cons, asRef_ref, setO_list, Option.bind_some, m1, M.a19, M.a111, Int.natCast_zero]
    refine hQ _ [] ?_ (by rw [← e1]; rfl) (k1.set (w1.geq (i := 0) rfl) _)
    have : (faultF c.str n (fs.map (·.2))).isEmpty = true := by rw [← e1]; rfl
    rw [this]
    exact w1.set 0 rfl _
  | cons x fs1 =>
    obtain ⟨t1, t2, t3⟩ := own_top w1
    simp only [List.map_cons, List.reverse_cons] at m3
    have hpos : (0 : Int) < (((List.map (fun x : FA × Fr => V.ref x.1.a) fs1).reverse ++ [V.ref x.1.a]).length : Int) := by simp
    simp only [wS_skip, wS_seq, wS_expr, wS_asg, wS_if_, wS_while_, wS_for_, wS_ret, wS_raise, wE_none, wE_bool, wE_int, wE_str, wE_loc, wE_glob, wE_bin, wE_not_, wE_cmp, wE_cmp2, wE_and_, wE_or_, wE_ite, wE_tup, wE_lst, wE_dct, wE_idx, wE_slc, wE_attr, wE_call, wE_new, wE_meth, wE_bi, wE_isi, wE_comp, wEs_nil, wEs_cons, wT_loc, wT_attr, wT_idx, wT_unp, wC_nil, wC_cons, onSome_some, isB_bool, cmp_eq, cmp_ne, cmp_lt, cmp_le, cmp_gt, cmp_ge, cmp_is_nn, cmp_is_in, cmp_is_tn, cmp_is_sn, cmp_isn_nn, cmp_isn_in, cmp_isn_tn, cmp_in_t, eqop_int, eqop_str, eqop_nn, eqop_ni, eqop_in, eqop_ns, eqop_sn, bin_add, bin_sub, idx_tup, bi_lent, bi_intb, getL0, getLs, seq0, seq1, seq2, seq3, List.map_cons, List.map_nil, List.cons_append, List.nil_append, List.set_cons_zero, List.set_cons_succ, List.length_cons, List.length_nil, Nat.reduceLT, Nat.reduceAdd, Nat.reduceSub, Nat.reduceEqDiff, if_true, if_false, decide_true, decide_false, Option.map_some, Option.map_none, Bool.not_true, Bool.not_false, getK, putK, List.replicate_succ, List.replicate_zero, true_and, and_true, List.isEmpty_nil, List.isEmpty_cons, asRef_ref, setO_list, Option.bind_some, m1, M.a110, bi_len m3, hpos, mFault_1, mFault_2, ix_list m3, seqAt_last, t1, M.a16, M.a02]
    refine goal_ok M S1.s ?_
    simp only [List.map_cons, faultF] at e1
    cases hg : goalOf c.str x.2.pl with
    | some p =>
      rw [hg] at e1
      have ta : (hp ++ [O.list [V.int n]])[x.1.a]? = some (.inst 0 [(2, .int x.2.pl), (3, .ref x.1.b), (4, .ref x.1.p)]) := by rw [List.getElem?_append_left (get_lt t1)]; exact t1
      have tb : ((hp ++ [O.list [V.int n]]).set x.1.a (.inst 0 [(2, .int x.2.pl), (3, .ref x.1.b), (4, .ref hp.length)]))[x.1.a]? = some (.inst 0 [(2, .int x.2.pl), (3, .ref x.1.b), (4, .ref hp.length)]) := List.getElem?_set_self (get_lt ta)
      simp only [mFault_3, mFault_4, mFault_5, mFault_6, wS_skip, wS_seq, wS_expr, wS_asg, wS_if_, wS_while_, wS_for_, wS_ret, wS_raise, wE_none, wE_bool, wE_int, wE_str, wE_loc, wE_glob, wE_bin, wE_not_, wE_cmp, wE_cmp2, wE_and_, wE_or_, wE_ite, wE_tup, wE_lst, wE_dct, wE_idx, wE_slc, wE_attr, wE_call, wE_new, wE_meth, wE_bi, wE_isi, wE_comp, wEs_nil, wEs_cons, wT_loc, wT_attr, wT_idx, wT_unp, wC_nil, wC_cons, onSome_some, isB_bool, cmp_eq, cmp_ne, cmp_lt, cmp_le, cmp_gt, cmp_ge, cmp_is_nn, cmp_is_in, cmp_is_tn, cmp_is_sn, cmp_isn_nn, cmp_isn_in, cmp_isn_tn, cmp_in_t, eqop_int, eqop_str, eqop_nn, eqop_ni, eqop_in, eqop_ns, eqop_sn, bin_add, bin_sub, idx_tup, bi_lent, bi_intb, getL0, getLs, seq0, seq1, seq2, seq3, List.map_cons, List.map_nil, List.cons_append, List.nil_append, List.set_cons_zero, List.set_cons_succ, List.length_cons, List.length_nil, Nat.reduceLT, Nat.reduceAdd, Nat.reduceSub, Nat.reduceEqDiff, if_true, if_false, decide_true, decide_false, Option.map_some, Option.map_none, Bool.not_true, Bool.not_false, getK, putK, List.replicate_succ, List.replicate_zero, true_and, and_true, List.isEmpty_nil, List.isEmpty_cons, asRef_ref, setO_list, Option.bind_some, ta, tb, M.a04, M.a02]
      refine hQ _ _ ?_ (show List.map (·.2) ((⟨x.1.a, x.1.b, hp.length⟩, (⟨p, x.2.bx, [n]⟩ : Fr)) :: fs1) = _ by rw [← e1]; rfl) (((k1.app w.bl _).set (w1.geq (i := 3) rfl) _).set (w1.geq (i := 3) rfl) _)
      have : (faultF c.str n (fs.map (·.2))).isEmpty = false := by rw [← e1]; rfl
      rw [this]
      exact own_goal w1 n p
    | none =>
      rw [hg] at e1
      simp only [mFault_3, mFault_7, wS_skip, wS_seq, wS_expr, wS_asg, wS_if_, wS_while_, wS_for_, wS_ret, wS_raise, wE_none, wE_bool, wE_int, wE_str, wE_loc, wE_glob, wE_bin, wE_not_, wE_cmp, wE_cmp2, wE_and_, wE_or_, wE_ite, wE_tup, wE_lst, wE_dct, wE_idx, wE_slc, wE_attr, wE_call, wE_new, wE_meth, wE_bi, wE_isi, wE_comp, wEs_nil, wEs_cons, wT_loc, wT_attr, wT_idx, wT_unp, wC_nil, wC_cons, onSome_some, isB_bool, cmp_eq, cmp_ne, cmp_lt, cmp_le, cmp_gt, cmp_ge, cmp_is_nn, cmp_is_in, cmp_is_tn, cmp_is_sn, cmp_isn_nn, cmp_isn_in, cmp_isn_tn, cmp_in_t, eqop_int, eqop_str, eqop_nn, eqop_ni, eqop_in, eqop_ns, eqop_sn, bin_add, bin_sub, idx_tup, bi_lent, bi_intb, getL0, getLs, seq0, seq1, seq2, seq3, List.map_cons, List.map_nil, List.cons_append, List.nil_append, List.set_cons_zero, List.set_cons_succ, List.length_cons, List.length_nil, Nat.reduceLT, Nat.reduceAdd, Nat.reduceSub, Nat.reduceEqDiff, if_true, if_false, decide_true, decide_false, Option.map_some, Option.map_none, Bool.not_true, Bool.not_false, getK, putK, List.replicate_succ, List.replicate_zero, true_and, and_true, List.isEmpty_nil, List.isEmpty_cons, asRef_ref, setO_list, Option.bind_some, m1, M.a110, m3, List.map_cons, List.reverse_cons, List.getLast?_concat, List.dropLast_concat, mPop]
      exact hK fs1.length _ (by simp) ⟨fs1, _, _, rfl, rfl, own_pop w1, e1, k1.set (w1.geq (i := 2) rfl) _⟩

section
omit M
variable {b : Nat} {h : Hp} {A : MA} {nb turns : Int} {x : FA × Fr} {fs : List (FA × Fr)} {said : List Int} {told : V} (w : Own b h (cells A nb (x :: fs) said turns told))
include w
theorem own_popP : Own b (h.set x.1.p (.list (x.2.pi.map .int).dropLast)) (cells A nb ((x.1, ⟨x.2.pl, x.2.bx, x.2.pi.dropLast⟩) :: fs) said turns told) := by
  rw [show O.list (x.2.pi.map V.int).dropLast = iL x.2.pi.dropLast by simp only [iL, List.map_dropLast]]
  exact w.set 5 rfl _
theorem own_pushP (i : Int) : Own b (h.set x.1.p (.list (x.2.pi.map .int ++ [.int i]))) (cells A nb ((x.1, ⟨x.2.pl, x.2.bx, x.2.pi ++ [i]⟩) :: fs) said turns told) := by
  rw [show O.list (x.2.pi.map V.int ++ [V.int i]) = iL (x.2.pi ++ [i]) by simp only [iL, List.map_append, List.map_cons, List.map_nil]]
  exact w.set 5 rfl _
theorem own_place (p : Int) : Own b (h.set x.1.a (.inst 0 [(2, .int p), (3, .ref x.1.b), (4, .ref x.1.p)])) (cells A nb ((x.1, ⟨p, x.2.bx, x.2.pi⟩) :: fs) said turns told) := w.set 3 rfl _
theorem own_box (k : Nat) (i : Int) : Own b (h.set x.1.b (.list ((x.2.bx.map .int).set k (.int i)))) (cells A nb ((x.1, ⟨x.2.pl, x.2.bx.set k i, x.2.pi⟩) :: fs) said turns told) := by
  rw [show O.list ((x.2.bx.map V.int).set k (V.int i)) = iL (x.2.bx.set k i) by simp only [iL, List.map_set]]
  exact w.set 4 rfl _
end
section
omit M
variable {b : Nat} {h : Hp} {A : MA} {nb turns : Int} {fs : List (FA × Fr)} {said : List Int} {told : V} (w : Own b h (cells A nb fs said turns told))
include w
theorem own_say (i : Int) : Own b (h.set A.said (.list (said.map .int ++ [.int i]))) (cells A nb fs (said ++ [i]) turns told) := by
  rw [show O.list (said.map V.int ++ [V.int i]) = iL (said ++ [i]) by simp only [iL, List.map_append, List.map_cons, List.map_nil]]
  exact w.set 1 rfl _
theorem own_mil (t : Int) (v : V) : Own b (h.set A.m (milO A nb t v)) (cells A nb fs said t v) := w.set 0 rfl _
end
omit M in
theorem lAt_map {xs : List Int} {k i : Int} (e : lAt xs k = some i) : seqAt (xs.map V.int) k = some (.int i) := by
  unfold lAt at e
  split at e
  · rename_i q; rw [seqAt_nat q, List.getElem?_map, e]; rfl
  · cases e
omit M in
theorem last_map {xs : List Int} {i : Int} (e : xs.getLast? = some i) : (xs.map V.int).getLast? = some (.int i) := by rw [List.getLast?_map, e]; rfl

theorem back_ok {r b : Nat} {h : Hp} {A : MA} {nb turns n : Int} {x : FA × Fr} {fs : List (FA × Fr)} {said : List Int} {Q : V → Hp → Prop} {X : Nat → Hp → Prop}
    (w : Own b h (cells A nb (x :: fs) said turns .none))
    (hQ : match fs with
      | [] => ∀ h', Own b h' (cells A nb [] said turns (.tup [.ref A.said, .str 34, .int n])) → Keep b h h' → Q .none h'
      | y :: fs => y.2.pi.length < lim ∧ ∀ h', Own b h' (cells A nb ((y.1, ⟨y.2.pl + 1, y.2.bx, y.2.pi ++ [n]⟩) :: fs) said turns .none) → Keep b h h' → Q .none h') :
    callWp g (r + 2) 6 [.ref A.m, .int n] h Q X := by
  refine call_enter M.f6 rfl (by decide) ?_
  generalize callWp g (r + 1) = C
  generalize callWp g r = N
  obtain ⟨m1, m2, m3⟩ := own_mill w
  have w1 := own_pop w
  obtain ⟨n1, n2, n3⟩ := own_mill w1
  have k1 : Keep b h _ := (Keep.refl b h).set (w.geq (i := 2) rfl) (.list (fs.map fun x => V.ref x.1.a).reverse)
  simp only [List.map_cons, List.reverse_cons] at m3
  simp only [mBack, mBack_0, mBack_1, wS_skip, wS_seq, wS_expr, wS_asg, wS_if_, wS_while_, wS_for_, wS_ret, wS_raise, wE_none, wE_bool, wE_int, wE_str, wE_loc, wE_glob, wE_bin, wE_not_, wE_cmp, wE_cmp2, wE_and_, wE_or_, wE_ite, wE_tup, wE_lst, wE_dct, wE_idx, wE_slc, wE_attr, wE_call, wE_new, wE_meth, wE_bi, wE_isi, wE_comp, wEs_nil, wEs_cons, wT_loc, wT_attr, wT_idx, wT_unp, wC_nil, wC_cons, onSome_some, isB_bool, cmp_eq, cmp_ne, cmp_lt, cmp_le, cmp_gt, cmp_ge, cmp_is_nn, cmp_is_in, cmp_is_tn, cmp_is_sn, cmp_isn_nn, cmp_isn_in, cmp_isn_tn, cmp_in_t, eqop_int, eqop_str, eqop_nn, eqop_ni, eqop_in, eqop_ns, eqop_sn, bin_add, bin_sub, idx_tup, bi_lent, bi_intb, getL0, getLs, seq0, seq1, seq2, seq3, List.map_cons, List.map_nil, List.cons_append, List.nil_append, List.set_cons_zero, List.set_cons_succ, List.length_cons, List.length_nil, Nat.reduceLT, Nat.reduceAdd, Nat.reduceSub, Nat.reduceEqDiff, if_true, if_false, decide_true, decide_false, Option.map_some, Option.map_none, Bool.not_true, Bool.not_false, getK, putK, List.replicate_succ, List.replicate_zero, true_and, and_true, List.isEmpty_nil, List.isEmpty_cons, asRef_ref, setO_list, Option.bind_some, m1, m3, M.a110, mPop, List.getLast?_concat, List.dropLast_concat, n1, bi_len n3]
  generalize h.set A.frs (O.list (List.map (fun x => V.ref x.fst.a) fs).reverse) = h1 at *
  cases fs with
  | nil =>
    simp only [List.map_nil, List.reverse_nil, List.length_nil, Int.natCast_zero, mBack_2, wS_skip, wS_seq, wS_expr, wS_asg, wS_if_, wS_while_, wS_for_, wS_ret, wS_raise, wE_none, wE_bool, wE_int, wE_str, wE_loc, wE_glob, wE_bin, wE_not_, wE_cmp, wE_cmp2, wE_and_, wE_or_, wE_ite, wE_tup, wE_lst, wE_dct, wE_idx, wE_slc, wE_attr, wE_call, wE_new, wE_meth, wE_bi, wE_isi, wE_comp, wEs_nil, wEs_cons, wT_loc, wT_attr, wT_idx, wT_unp, wC_nil, wC_cons, onSome_some, isB_bool, cmp_eq, cmp_ne, cmp_lt, cmp_le, cmp_gt, cmp_ge, cmp_is_nn, cmp_is_in, cmp_is_tn, cmp_is_sn, cmp_isn_nn, cmp_isn_in, cmp_isn_tn, cmp_in_t, eqop_int, eqop_str, eqop_nn, eqop_ni, eqop_in, eqop_ns, eqop_sn, bin_add, bin_sub, idx_tup, bi_lent, bi_intb, getL0, getLs, seq0, seq1, seq2, seq3, List.map_cons, List.map_nil, List.cons_append, List.nil_append, List.set_cons_zero, List.set_cons_succ, List.length_cons, List.length_nil, Nat.reduceLT, Nat.reduceAdd, Nat.reduceSub, Nat.reduceEqDiff, if_true, if_false, decide_true, decide_false, Option.map_some, Option.map_none, Bool.not_true, Bool.not_false, getK, putK, List.replicate_succ, List.replicate_zero, true_and, and_true, List.isEmpty_nil, List.isEmpty_cons, asRef_ref, setO_list, Option.bind_some, n1, M.a19, M.a111]
    exact hQ _ (own_mil w1 _ _) (k1.set (w1.geq (i := 0) rfl) _)
  | cons y fs =>
    obtain ⟨hl, hQ⟩ := hQ
    simp only [List.map_cons, List.reverse_cons] at n3
    have hne : ¬ ((((List.map (fun x : FA × Fr => V.ref x.1.a) fs).reverse ++ [V.ref y.1.a]).length : Int) = 0) := by simp only [List.length_append, List.length_cons, List.length_nil]; (first | lia | omega)
    have hl' : (y.2.pi.map V.int).length < lim := by rw [List.length_map]; exact hl
    obtain ⟨t1, t2, t3⟩ := own_top w1
    have w2 := own_pushP w1 n
    obtain ⟨p1, p2, p3⟩ := own_mill w2
    obtain ⟨q1, q2, q3⟩ := own_top w2
    simp only [List.map_cons, List.reverse_cons] at p3
    dsimp only at q1 q2 q3
    simp only [List.map_cons, List.reverse_cons, hne, mBack_3, mBack_4, wS_skip, wS_seq, wS_expr, wS_asg, wS_if_, wS_while_, wS_for_, wS_ret, wS_raise, wE_none, wE_bool, wE_int, wE_str, wE_loc, wE_glob, wE_bin, wE_not_, wE_cmp, wE_cmp2, wE_and_, wE_or_, wE_ite, wE_tup, wE_lst, wE_dct, wE_idx, wE_slc, wE_attr, wE_call, wE_new, wE_meth, wE_bi, wE_isi, wE_comp, wEs_nil, wEs_cons, wT_loc, wT_attr, wT_idx, wT_unp, wC_nil, wC_cons, onSome_some, isB_bool, cmp_eq, cmp_ne, cmp_lt, cmp_le, cmp_gt, cmp_ge, cmp_is_nn, cmp_is_in, cmp_is_tn, cmp_is_sn, cmp_isn_nn, cmp_isn_in, cmp_isn_tn, cmp_in_t, eqop_int, eqop_str, eqop_nn, eqop_ni, eqop_in, eqop_ns, eqop_sn, bin_add, bin_sub, idx_tup, bi_lent, bi_intb, getL0, getLs, seq0, seq1, seq2, seq3, List.map_cons, List.map_nil, List.cons_append, List.nil_append, List.set_cons_zero, List.set_cons_succ, List.length_cons, List.length_nil, Nat.reduceLT, Nat.reduceAdd, Nat.reduceSub, Nat.reduceEqDiff, if_true, if_false, decide_true, decide_false, Option.map_some, Option.map_none, Bool.not_true, Bool.not_false, getK, putK, List.replicate_succ, List.replicate_zero, true_and, and_true, List.isEmpty_nil, List.isEmpty_cons, asRef_ref, setO_list, Option.bind_some, n1, M.a110, ix_list n3, seqAt_last, t1, M.a04, t3, mAppend, hl', p1, ix_list p3, q1, M.a02]
    exact hQ _ (own_place w2 _) ((k1.set (w1.geq (i := 5) rfl) _).set (w1.geq (i := 3) rfl) _)

theorem reck_ok {r b : Nat} {h : Hp} {A : MA} {c : Co} {turns i j : Int} {x : FA × Fr} {fs : List (FA × Fr)} {said : List Int} {Q : V → Hp → Prop} {X : Nat → Hp → Prop} {o : Ari}
    (w : Own b h (cells A c.nb (x :: fs) said turns .none)) (S : Src b h A c) (hj : x.2.pi.getLast? = some j) (hi : x.2.pi.dropLast.getLast? = some i) (hl : ¬ (o = .share ∧ j = 0) → x.2.pi.length ≤ lim)
    (hQ0 : o = .share ∧ j = 0 → ∀ h' fs', Own b h' (cells A c.nb fs' said turns (if (faultF c.str 101 (⟨x.2.pl, x.2.bx, x.2.pi.dropLast.dropLast⟩ :: fs.map (·.2))).isEmpty then .tup [.ref A.said, .str 13, .int 101] else .none)) → fs'.map (·.2) = faultF c.str 101 (⟨x.2.pl, x.2.bx, x.2.pi.dropLast.dropLast⟩ :: fs.map (·.2)) → Keep b h h' → Q .none h')
    (hQ : ¬ (o = .share ∧ j = 0) → ∀ h', Own b h' (cells A c.nb ((x.1, ⟨x.2.pl + 1, x.2.bx, x.2.pi.dropLast.dropLast ++ [o.do i j]⟩) :: fs) said turns .none) → Keep b h h' → Q .none h') :
    callWp g (r + 4) 7 [.ref A.m, .ref x.1.a, .str o.w] h Q X := by
  refine call_enter M.f7 rfl (by decide) ?_
  generalize callWp g (r + 2) = N
  have w1 := own_popP w
  have w2 := own_popP w1
  obtain ⟨x1, ⟨pl, bx, pi⟩⟩ := x
  obtain ⟨t1, t2, t3⟩ := own_top w
  obtain ⟨u1, u2, u3⟩ := own_top w1
  obtain ⟨v1, v2, v3⟩ := own_top w2
  obtain ⟨m1, m2, m3⟩ := own_mill w2
  have k2 := ((Keep.refl b h).set (w.geq (i := 5) rfl) (.list (pi.map .int).dropLast)).set (w.geq (i := 5) rfl) (.list (pi.dropLast.map .int).dropLast)
  dsimp only at *
  show wpS g _ N mReck_0 ⟨[some (.ref A.m), some (.ref x1.a), some (.str o.w), none, none], h⟩ _ _ _
  simp only [mReck_0, mReck_1, wS_skip, wS_seq, wS_expr, wS_asg, wS_if_, wS_while_, wS_for_, wS_ret, wS_raise, wE_none, wE_bool, wE_int, wE_str, wE_loc, wE_glob, wE_bin, wE_not_, wE_cmp, wE_cmp2, wE_and_, wE_or_, wE_ite, wE_tup, wE_lst, wE_dct, wE_idx, wE_slc, wE_attr, wE_call, wE_new, wE_meth, wE_bi, wE_isi, wE_comp, wEs_nil, wEs_cons, wT_loc, wT_attr, wT_idx, wT_unp, wC_nil, wC_cons, onSome_some, isB_bool, cmp_eq, cmp_ne, cmp_lt, cmp_le, cmp_gt, cmp_ge, cmp_is_nn, cmp_is_in, cmp_is_tn, cmp_is_sn, cmp_isn_nn, cmp_isn_in, cmp_isn_tn, cmp_in_t, eqop_int, eqop_str, eqop_nn, eqop_ni, eqop_in, eqop_ns, eqop_sn, bin_add, bin_sub, idx_tup, bi_lent, bi_intb, getL0, getLs, seq0, seq1, seq2, seq3, List.map_cons, List.map_nil, List.cons_append, List.nil_append, List.set_cons_zero, List.set_cons_succ, List.length_cons, List.length_nil, Nat.reduceLT, Nat.reduceAdd, Nat.reduceSub, Nat.reduceEqDiff, if_true, if_false, decide_true, decide_false, Option.map_some, Option.map_none, Bool.not_true, Bool.not_false, getK, putK, List.replicate_succ, List.replicate_zero, true_and, and_true, List.isEmpty_nil, List.isEmpty_cons, asRef_ref, setO_list, Option.bind_some, t1, t3, M.a04, mPop, last_map hj, u1, u3, last_map hi]
  generalize (h.set x1.p (.list (pi.map V.int).dropLast)).set x1.p (.list (pi.dropLast.map V.int).dropLast) = h2 at *
  by_cases hc : o = .share ∧ j = 0
  · obtain ⟨rfl, rfl⟩ := hc
    simp only [mReck_2, mReck_3, Ari.w, wS_skip, wS_seq, wS_expr, wS_asg, wS_if_, wS_while_, wS_for_, wS_ret, wS_raise, wE_none, wE_bool, wE_int, wE_str, wE_loc, wE_glob, wE_bin, wE_not_, wE_cmp, wE_cmp2, wE_and_, wE_or_, wE_ite, wE_tup, wE_lst, wE_dct, wE_idx, wE_slc, wE_attr, wE_call, wE_new, wE_meth, wE_bi, wE_isi, wE_comp, wEs_nil, wEs_cons, wT_loc, wT_attr, wT_idx, wT_unp, wC_nil, wC_cons, onSome_some, isB_bool, cmp_eq, cmp_ne, cmp_lt, cmp_le, cmp_gt, cmp_ge, cmp_is_nn, cmp_is_in, cmp_is_tn, cmp_is_sn, cmp_isn_nn, cmp_isn_in, cmp_isn_tn, cmp_in_t, eqop_int, eqop_str, eqop_nn, eqop_ni, eqop_in, eqop_ns, eqop_sn, bin_add, bin_sub, idx_tup, bi_lent, bi_intb, getL0, getLs, seq0, seq1, seq2, seq3, List.map_cons, List.map_nil, List.cons_append, List.nil_append, List.set_cons_zero, List.set_cons_succ, List.length_cons, List.length_nil, Nat.reduceLT, Nat.reduceAdd, Nat.reduceSub, Nat.reduceEqDiff, if_true, if_false, decide_true, decide_false, Option.map_some, Option.map_none, Bool.not_true, Bool.not_false, getK, putK, List.replicate_succ, List.replicate_zero, true_and, and_true, List.isEmpty_nil, List.isEmpty_cons, asRef_ref, setO_list, Option.bind_some, m1, M.m13]
    refine fault_ok M w2 (S.keep k2) fun h' fs' z1 z2 z3 => ?_
    simp only [mReck_4, wS_skip, wS_seq, wS_expr, wS_asg, wS_if_, wS_while_, wS_for_, wS_ret, wS_raise, wE_none, wE_bool, wE_int, wE_str, wE_loc, wE_glob, wE_bin, wE_not_, wE_cmp, wE_cmp2, wE_and_, wE_or_, wE_ite, wE_tup, wE_lst, wE_dct, wE_idx, wE_slc, wE_attr, wE_call, wE_new, wE_meth, wE_bi, wE_isi, wE_comp, wEs_nil, wEs_cons, wT_loc, wT_attr, wT_idx, wT_unp, wC_nil, wC_cons, onSome_some, isB_bool, cmp_eq, cmp_ne, cmp_lt, cmp_le, cmp_gt, cmp_ge, cmp_is_nn, cmp_is_in, cmp_is_tn, cmp_is_sn, cmp_isn_nn, cmp_isn_in, cmp_isn_tn, cmp_in_t, eqop_int, eqop_str, eqop_nn, eqop_ni, eqop_in, eqop_ns, eqop_sn, bin_add, bin_sub, idx_tup, bi_lent, bi_intb, getL0, getLs, seq0, seq1, seq2, seq3, List.map_cons, List.map_nil, List.cons_append, List.nil_append, List.set_cons_zero, List.set_cons_succ, List.length_cons, List.length_nil, Nat.reduceLT, Nat.reduceAdd, Nat.reduceSub, Nat.reduceEqDiff, if_true, if_false, decide_true, decide_false, Option.map_some, Option.map_none, Bool.not_true, Bool.not_false, getK, putK, List.replicate_succ, List.replicate_zero, true_and, and_true, List.isEmpty_nil, List.isEmpty_cons, asRef_ref, setO_list, Option.bind_some]
    exact hQ0 ⟨rfl, rfl⟩ h' fs' z1 z2 (k2.trans z3)
  · have hl' : (pi.dropLast.dropLast.map V.int).length < lim := by
      have hl := hl hc
      simp only [List.length_map, List.length_dropLast]
      cases pi with
      | nil => cases hj
      | cons _ _ => simp only [List.length_cons] at hl ⊢; (first | lia | omega)
    have fin : ∀ y : Int, o.do i j = y → Q .none ((h2.set x1.p (.list (pi.dropLast.dropLast.map V.int ++ [.int y]))).set x1.a (.inst 0 [(2, .int (pl + 1)), (3, .ref x1.b), (4, .ref x1.p)])) := fun y e => by
      subst e
      exact hQ hc _ (own_place (own_pushP w2 _) _) ((k2.set (w.geq (i := 5) rfl) _).set (w.geq (i := 3) rfl) _)
    have pp : ∀ y : Int, (h2.set x1.p (.list (pi.dropLast.dropLast.map V.int ++ [.int y])))[x1.a]? = some (.inst 0 [(2, .int pl), (3, .ref x1.b), (4, .ref x1.p)]) := fun y => (own_top (own_pushP w2 y)).1
    cases o with
    | add =>
      simp only [mReck_2, mReck_3, mReck_4, mReck_5, mReck_6, mReck_12, Ari.w, wS_skip, wS_seq, wS_expr, wS_asg, wS_if_, wS_while_, wS_for_, wS_ret, wS_raise, wE_none, wE_bool, wE_int, wE_str, wE_loc, wE_glob, wE_bin, wE_not_, wE_cmp, wE_cmp2, wE_and_, wE_or_, wE_ite, wE_tup, wE_lst, wE_dct, wE_idx, wE_slc, wE_attr, wE_call, wE_new, wE_meth, wE_bi, wE_isi, wE_comp, wEs_nil, wEs_cons, wT_loc, wT_attr, wT_idx, wT_unp, wC_nil, wC_cons, onSome_some, isB_bool, cmp_eq, cmp_ne, cmp_lt, cmp_le, cmp_gt, cmp_ge, cmp_is_nn, cmp_is_in, cmp_is_tn, cmp_is_sn, cmp_isn_nn, cmp_isn_in, cmp_isn_tn, cmp_in_t, eqop_int, eqop_str, eqop_nn, eqop_ni, eqop_in, eqop_ns, eqop_sn, bin_add, bin_sub, idx_tup, bi_lent, bi_intb, getL0, getLs, seq0, seq1, seq2, seq3, List.map_cons, List.map_nil, List.cons_append, List.nil_append, List.set_cons_zero, List.set_cons_succ, List.length_cons, List.length_nil, Nat.reduceLT, Nat.reduceAdd, Nat.reduceSub, Nat.reduceEqDiff, if_true, if_false, decide_true, decide_false, Option.map_some, Option.map_none, Bool.not_true, Bool.not_false, getK, putK, List.replicate_succ, List.replicate_zero, true_and, and_true, List.isEmpty_nil, List.isEmpty_cons, asRef_ref, setO_list, Option.bind_some, v1, v3, M.a04, M.a02, mAppend, hl', pp]
      exact fin _ rfl
    | sub =>
      simp only [mReck_2, mReck_3, mReck_4, mReck_5, mReck_7, mReck_8, mReck_12, Ari.w, wS_skip, wS_seq, wS_expr, wS_asg, wS_if_, wS_while_, wS_for_, wS_ret, wS_raise, wE_none, wE_bool, wE_int, wE_str, wE_loc, wE_glob, wE_bin, wE_not_, wE_cmp, wE_cmp2, wE_and_, wE_or_, wE_ite, wE_tup, wE_lst, wE_dct, wE_idx, wE_slc, wE_attr, wE_call, wE_new, wE_meth, wE_bi, wE_isi, wE_comp, wEs_nil, wEs_cons, wT_loc, wT_attr, wT_idx, wT_unp, wC_nil, wC_cons, onSome_some, isB_bool, cmp_eq, cmp_ne, cmp_lt, cmp_le, cmp_gt, cmp_ge, cmp_is_nn, cmp_is_in, cmp_is_tn, cmp_is_sn, cmp_isn_nn, cmp_isn_in, cmp_isn_tn, cmp_in_t, eqop_int, eqop_str, eqop_nn, eqop_ni, eqop_in, eqop_ns, eqop_sn, bin_add, bin_sub, idx_tup, bi_lent, bi_intb, getL0, getLs, seq0, seq1, seq2, seq3, List.map_cons, List.map_nil, List.cons_append, List.nil_append, List.set_cons_zero, List.set_cons_succ, List.length_cons, List.length_nil, Nat.reduceLT, Nat.reduceAdd, Nat.reduceSub, Nat.reduceEqDiff, if_true, if_false, decide_true, decide_false, Option.map_some, Option.map_none, Bool.not_true, Bool.not_false, getK, putK, List.replicate_succ, List.replicate_zero, true_and, and_true, List.isEmpty_nil, List.isEmpty_cons, asRef_ref, setO_list, Option.bind_some, v1, v3, M.a04, M.a02, mAppend, hl', pp]
      exact fin _ rfl
    | less =>
      simp only [mReck_2, mReck_3, mReck_4, mReck_5, mReck_7, mReck_9, mReck_10, mReck_12, Ari.w, wS_skip, wS_seq, wS_expr, wS_asg, wS_if_, wS_while_, wS_for_, wS_ret, wS_raise, wE_none, wE_bool, wE_int, wE_str, wE_loc, wE_glob, wE_bin, wE_not_, wE_cmp, wE_cmp2, wE_and_, wE_or_, wE_ite, wE_tup, wE_lst, wE_dct, wE_idx, wE_slc, wE_attr, wE_call, wE_new, wE_meth, wE_bi, wE_isi, wE_comp, wEs_nil, wEs_cons, wT_loc, wT_attr, wT_idx, wT_unp, wC_nil, wC_cons, onSome_some, isB_bool, cmp_eq, cmp_ne, cmp_lt, cmp_le, cmp_gt, cmp_ge, cmp_is_nn, cmp_is_in, cmp_is_tn, cmp_is_sn, cmp_isn_nn, cmp_isn_in, cmp_isn_tn, cmp_in_t, eqop_int, eqop_str, eqop_nn, eqop_ni, eqop_in, eqop_ns, eqop_sn, bin_add, bin_sub, idx_tup, bi_lent, bi_intb, getL0, getLs, seq0, seq1, seq2, seq3, List.map_cons, List.map_nil, List.cons_append, List.nil_append, List.set_cons_zero, List.set_cons_succ, List.length_cons, List.length_nil, Nat.reduceLT, Nat.reduceAdd, Nat.reduceSub, Nat.reduceEqDiff, if_true, if_false, decide_true, decide_false, Option.map_some, Option.map_none, Bool.not_true, Bool.not_false, getK, putK, List.replicate_succ, List.replicate_zero, true_and, and_true, List.isEmpty_nil, List.isEmpty_cons, asRef_ref, setO_list, Option.bind_some, v1, v3, M.a04, M.a02, mAppend, hl', pp]
      refine fin _ ?_
      simp [Ari.do]
    | share =>
      have hj0 : ¬ j = 0 := fun e => hc ⟨rfl, e⟩
      simp only [mReck_2, mReck_3, mReck_4, mReck_5, mReck_7, mReck_9, mReck_11, mReck_12, Ari.w, wS_skip, wS_seq, wS_expr, wS_asg, wS_if_, wS_while_, wS_for_, wS_ret, wS_raise, wE_none, wE_bool, wE_int, wE_str, wE_loc, wE_glob, wE_bin, wE_not_, wE_cmp, wE_cmp2, wE_and_, wE_or_, wE_ite, wE_tup, wE_lst, wE_dct, wE_idx, wE_slc, wE_attr, wE_call, wE_new, wE_meth, wE_bi, wE_isi, wE_comp, wEs_nil, wEs_cons, wT_loc, wT_attr, wT_idx, wT_unp, wC_nil, wC_cons, onSome_some, isB_bool, cmp_eq, cmp_ne, cmp_lt, cmp_le, cmp_gt, cmp_ge, cmp_is_nn, cmp_is_in, cmp_is_tn, cmp_is_sn, cmp_isn_nn, cmp_isn_in, cmp_isn_tn, cmp_in_t, eqop_int, eqop_str, eqop_nn, eqop_ni, eqop_in, eqop_ns, eqop_sn, bin_add, bin_sub, idx_tup, bi_lent, bi_intb, getL0, getLs, seq0, seq1, seq2, seq3, List.map_cons, List.map_nil, List.cons_append, List.nil_append, List.set_cons_zero, List.set_cons_succ, List.length_cons, List.length_nil, Nat.reduceLT, Nat.reduceAdd, Nat.reduceSub, Nat.reduceEqDiff, if_true, if_false, decide_true, decide_false, Option.map_some, Option.map_none, Bool.not_true, Bool.not_false, getK, putK, List.replicate_succ, List.replicate_zero, true_and, and_true, List.isEmpty_nil, List.isEmpty_cons, asRef_ref, setO_list, Option.bind_some, v1, v3, M.a04, M.a02, mAppend, hl', pp, hj0, bin_div _ _ _ hj0]
      exact fin _ rfl

theorem leap_go {r b : Nat} {h : Hp} {A : MA} {nb turns p : Int} {x : FA × Fr} {fs : List (FA × Fr)} {said : List Int} {Q : V → Hp → Prop} {X : Nat → Hp → Prop}
    (w : Own b h (cells A nb (x :: fs) said turns .none)) (hQ : Q .none (h.set x.1.a (.inst 0 [(2, .int p), (3, .ref x.1.b), (4, .ref x.1.p)]))) : callWp g (r + 2) 8 [.ref A.m, .ref x.1.a, .tup [.str 28, .int p]] h Q X := by
  refine call_enter M.f8 rfl (by decide) ?_
  generalize callWp g (r + 1) = C
  generalize callWp g r = N
  obtain ⟨t1, t2, t3⟩ := own_top w
  simp only [mLeap, mLeap_0, mLeap_1, wS_skip, wS_seq, wS_expr, wS_asg, wS_if_, wS_while_, wS_for_, wS_ret, wS_raise, wE_none, wE_bool, wE_int, wE_str, wE_loc, wE_glob, wE_bin, wE_not_, wE_cmp, wE_cmp2, wE_and_, wE_or_, wE_ite, wE_tup, wE_lst, wE_dct, wE_idx, wE_slc, wE_attr, wE_call, wE_new, wE_meth, wE_bi, wE_isi, wE_comp, wEs_nil, wEs_cons, wT_loc, wT_attr, wT_idx, wT_unp, wC_nil, wC_cons, onSome_some, isB_bool, cmp_eq, cmp_ne, cmp_lt, cmp_le, cmp_gt, cmp_ge, cmp_is_nn, cmp_is_in, cmp_is_tn, cmp_is_sn, cmp_isn_nn, cmp_isn_in, cmp_isn_tn, cmp_in_t, eqop_int, eqop_str, eqop_nn, eqop_ni, eqop_in, eqop_ns, eqop_sn, bin_add, bin_sub, idx_tup, bi_lent, bi_intb, getL0, getLs, seq0, seq1, seq2, seq3, List.map_cons, List.map_nil, List.cons_append, List.nil_append, List.set_cons_zero, List.set_cons_succ, List.length_cons, List.length_nil, Nat.reduceLT, Nat.reduceAdd, Nat.reduceSub, Nat.reduceEqDiff, if_true, if_false, decide_true, decide_false, Option.map_some, Option.map_none, Bool.not_true, Bool.not_false, getK, putK, List.replicate_succ, List.replicate_zero, true_and, and_true, List.isEmpty_nil, List.isEmpty_cons, asRef_ref, setO_list, Option.bind_some, t1, M.a02]
  exact hQ
theorem leap_on {r b : Nat} {h : Hp} {A : MA} {nb turns p k : Int} {x : FA × Fr} {fs : List (FA × Fr)} {said : List Int} {Q : V → Hp → Prop} {X : Nat → Hp → Prop}
    (w : Own b h (cells A nb (x :: fs) said turns .none)) (hk : lAt x.2.bx k = some p) (hQ : Q .none (h.set x.1.a (.inst 0 [(2, .int p), (3, .ref x.1.b), (4, .ref x.1.p)]))) : callWp g (r + 2) 8 [.ref A.m, .ref x.1.a, .tup [.str 30, .int k]] h Q X := by
  refine call_enter M.f8 rfl (by decide) ?_
  generalize callWp g (r + 1) = C
  generalize callWp g r = N
  obtain ⟨t1, t2, t3⟩ := own_top w
  simp only [mLeap, mLeap_0, mLeap_2, mLeap_3, wS_skip, wS_seq, wS_expr, wS_asg, wS_if_, wS_while_, wS_for_, wS_ret, wS_raise, wE_none, wE_bool, wE_int, wE_str, wE_loc, wE_glob, wE_bin, wE_not_, wE_cmp, wE_cmp2, wE_and_, wE_or_, wE_ite, wE_tup, wE_lst, wE_dct, wE_idx, wE_slc, wE_attr, wE_call, wE_new, wE_meth, wE_bi, wE_isi, wE_comp, wEs_nil, wEs_cons, wT_loc, wT_attr, wT_idx, wT_unp, wC_nil, wC_cons, onSome_some, isB_bool, cmp_eq, cmp_ne, cmp_lt, cmp_le, cmp_gt, cmp_ge, cmp_is_nn, cmp_is_in, cmp_is_tn, cmp_is_sn, cmp_isn_nn, cmp_isn_in, cmp_isn_tn, cmp_in_t, eqop_int, eqop_str, eqop_nn, eqop_ni, eqop_in, eqop_ns, eqop_sn, bin_add, bin_sub, idx_tup, bi_lent, bi_intb, getL0, getLs, seq0, seq1, seq2, seq3, List.map_cons, List.map_nil, List.cons_append, List.nil_append, List.set_cons_zero, List.set_cons_succ, List.length_cons, List.length_nil, Nat.reduceLT, Nat.reduceAdd, Nat.reduceSub, Nat.reduceEqDiff, if_true, if_false, decide_true, decide_false, Option.map_some, Option.map_none, Bool.not_true, Bool.not_false, getK, putK, List.replicate_succ, List.replicate_zero, true_and, and_true, List.isEmpty_nil, List.isEmpty_cons, asRef_ref, setO_list, Option.bind_some, t1, M.a02, M.a03, ix_list t2, lAt_map hk]
  exact hQ
theorem leap_nought {r b : Nat} {h : Hp} {A : MA} {nb turns p i : Int} {x : FA × Fr} {fs : List (FA × Fr)} {said : List Int} {Q : V → Hp → Prop} {X : Nat → Hp → Prop}
    (w : Own b h (cells A nb (x :: fs) said turns .none)) (hi : x.2.pi.getLast? = some i) (hQ : Q .none ((h.set x.1.p (.list (x.2.pi.map .int).dropLast)).set x.1.a (.inst 0 [(2, .int (if i = 0 then p else x.2.pl + 1)), (3, .ref x.1.b), (4, .ref x.1.p)]))) : callWp g (r + 2) 8 [.ref A.m, .ref x.1.a, .tup [.str 29, .int p]] h Q X := by
  refine call_enter M.f8 rfl (by decide) ?_
  generalize callWp g (r + 1) = C
  generalize callWp g r = N
  obtain ⟨t1, t2, t3⟩ := own_top w
  obtain ⟨u1, u2, u3⟩ := own_top (own_popP w)
  dsimp only at u1
  by_cases c : i = 0
  · subst c
    rw [if_pos rfl] at hQ
    simp only [mLeap, mLeap_0, mLeap_2, mLeap_4, mLeap_5, wS_skip, wS_seq, wS_expr, wS_asg, wS_if_, wS_while_, wS_for_, wS_ret, wS_raise, wE_none, wE_bool, wE_int, wE_str, wE_loc, wE_glob, wE_bin, wE_not_, wE_cmp, wE_cmp2, wE_and_, wE_or_, wE_ite, wE_tup, wE_lst, wE_dct, wE_idx, wE_slc, wE_attr, wE_call, wE_new, wE_meth, wE_bi, wE_isi, wE_comp, wEs_nil, wEs_cons, wT_loc, wT_attr, wT_idx, wT_unp, wC_nil, wC_cons, onSome_some, isB_bool, cmp_eq, cmp_ne, cmp_lt, cmp_le, cmp_gt, cmp_ge, cmp_is_nn, cmp_is_in, cmp_is_tn, cmp_is_sn, cmp_isn_nn, cmp_isn_in, cmp_isn_tn, cmp_in_t, eqop_int, eqop_str, eqop_nn, eqop_ni, eqop_in, eqop_ns, eqop_sn, bin_add, bin_sub, idx_tup, bi_lent, bi_intb, getL0, getLs, seq0, seq1, seq2, seq3, List.map_cons, List.map_nil, List.cons_append, List.nil_append, List.set_cons_zero, List.set_cons_succ, List.length_cons, List.length_nil, Nat.reduceLT, Nat.reduceAdd, Nat.reduceSub, Nat.reduceEqDiff, if_true, if_false, decide_true, decide_false, Option.map_some, Option.map_none, Bool.not_true, Bool.not_false, getK, putK, List.replicate_succ, List.replicate_zero, true_and, and_true, List.isEmpty_nil, List.isEmpty_cons, asRef_ref, setO_list, Option.bind_some, t1, M.a02, M.a04, t3, mPop, last_map hi, u1]
    exact hQ
  · rw [if_neg c] at hQ
    simp only [mLeap, mLeap_0, mLeap_2, mLeap_4, mLeap_6, wS_skip, wS_seq, wS_expr, wS_asg, wS_if_, wS_while_, wS_for_, wS_ret, wS_raise, wE_none, wE_bool, wE_int, wE_str, wE_loc, wE_glob, wE_bin, wE_not_, wE_cmp, wE_cmp2, wE_and_, wE_or_, wE_ite, wE_tup, wE_lst, wE_dct, wE_idx, wE_slc, wE_attr, wE_call, wE_new, wE_meth, wE_bi, wE_isi, wE_comp, wEs_nil, wEs_cons, wT_loc, wT_attr, wT_idx, wT_unp, wC_nil, wC_cons, onSome_some, isB_bool, cmp_eq, cmp_ne, cmp_lt, cmp_le, cmp_gt, cmp_ge, cmp_is_nn, cmp_is_in, cmp_is_tn, cmp_is_sn, cmp_isn_nn, cmp_isn_in, cmp_isn_tn, cmp_in_t, eqop_int, eqop_str, eqop_nn, eqop_ni, eqop_in, eqop_ns, eqop_sn, bin_add, bin_sub, idx_tup, bi_lent, bi_intb, getL0, getLs, seq0, seq1, seq2, seq3, List.map_cons, List.map_nil, List.cons_append, List.nil_append, List.set_cons_zero, List.set_cons_succ, List.length_cons, List.length_nil, Nat.reduceLT, Nat.reduceAdd, Nat.reduceSub, Nat.reduceEqDiff, if_true, if_false, decide_true, decide_false, Option.map_some, Option.map_none, Bool.not_true, Bool.not_false, getK, putK, List.replicate_succ, List.replicate_zero, true_and, and_true, List.isEmpty_nil, List.isEmpty_cons, asRef_ref, setO_list, Option.bind_some, t1, M.a02, M.a04, t3, mPop, last_map hi, u1, c]
    exact hQ

theorem plain_put {r b : Nat} {h : Hp} {A : MA} {nb turns i : Int} {x : FA × Fr} {fs : List (FA × Fr)} {said : List Int} {Q : V → Hp → Prop} {X : Nat → Hp → Prop}
    (w : Own b h (cells A nb (x :: fs) said turns .none)) (hl : x.2.pi.length < lim) (hQ : ∀ h', Own b h' (cells A nb ((x.1, ⟨x.2.pl + 1, x.2.bx, x.2.pi ++ [i]⟩) :: fs) said turns .none) → Keep b h h' → Q .none h') : callWp g (r + 2) 9 [.ref A.m, .ref x.1.a, .tup [.str 20, .int i]] h Q X := by
  refine call_enter M.f9 rfl (by decide) ?_
  generalize callWp g (r + 1) = C
  generalize callWp g r = N
  obtain ⟨t1, t2, t3⟩ := own_top w
  have w1 := own_pushP w i
  obtain ⟨u1, u2, u3⟩ := own_top w1
  dsimp only at u1
  have hl' : (x.2.pi.map V.int).length < lim := by rw [List.length_map]; exact hl
  simp only [mPlain, mPlain_0, mPlain_1, mPlain_10, wS_skip, wS_seq, wS_expr, wS_asg, wS_if_, wS_while_, wS_for_, wS_ret, wS_raise, wE_none, wE_bool, wE_int, wE_str, wE_loc, wE_glob, wE_bin, wE_not_, wE_cmp, wE_cmp2, wE_and_, wE_or_, wE_ite, wE_tup, wE_lst, wE_dct, wE_idx, wE_slc, wE_attr, wE_call, wE_new, wE_meth, wE_bi, wE_isi, wE_comp, wEs_nil, wEs_cons, wT_loc, wT_attr, wT_idx, wT_unp, wC_nil, wC_cons, onSome_some, isB_bool, cmp_eq, cmp_ne, cmp_lt, cmp_le, cmp_gt, cmp_ge, cmp_is_nn, cmp_is_in, cmp_is_tn, cmp_is_sn, cmp_isn_nn, cmp_isn_in, cmp_isn_tn, cmp_in_t, eqop_int, eqop_str, eqop_nn, eqop_ni, eqop_in, eqop_ns, eqop_sn, bin_add, bin_sub, idx_tup, bi_lent, bi_intb, getL0, getLs, seq0, seq1, seq2, seq3, List.map_cons, List.map_nil, List.cons_append, List.nil_append, List.set_cons_zero, List.set_cons_succ, List.length_cons, List.length_nil, Nat.reduceLT, Nat.reduceAdd, Nat.reduceSub, Nat.reduceEqDiff, if_true, if_false, decide_true, decide_false, Option.map_some, Option.map_none, Bool.not_true, Bool.not_false, getK, putK, List.replicate_succ, List.replicate_zero, true_and, and_true, List.isEmpty_nil, List.isEmpty_cons, asRef_ref, setO_list, Option.bind_some, t1, M.a02, M.a04, t3, mAppend, hl', u1]
  exact hQ _ (own_place w1 _) (((Keep.refl b h).set (w.geq (i := 5) rfl) _).set (w.geq (i := 3) rfl) _)
theorem plain_get {r b : Nat} {h : Hp} {A : MA} {nb turns i k : Int} {x : FA × Fr} {fs : List (FA × Fr)} {said : List Int} {Q : V → Hp → Prop} {X : Nat → Hp → Prop}
    (w : Own b h (cells A nb (x :: fs) said turns .none)) (hk : lAt x.2.bx k = some i) (hl : x.2.pi.length < lim) (hQ : ∀ h', Own b h' (cells A nb ((x.1, ⟨x.2.pl + 1, x.2.bx, x.2.pi ++ [i]⟩) :: fs) said turns .none) → Keep b h h' → Q .none h') : callWp g (r + 2) 9 [.ref A.m, .ref x.1.a, .tup [.str 21, .int k]] h Q X := by
  refine call_enter M.f9 rfl (by decide) ?_
  generalize callWp g (r + 1) = C
  generalize callWp g r = N
  obtain ⟨t1, t2, t3⟩ := own_top w
  have w1 := own_pushP w i
  obtain ⟨u1, u2, u3⟩ := own_top w1
  dsimp only at u1
  have hl' : (x.2.pi.map V.int).length < lim := by rw [List.length_map]; exact hl
  simp only [mPlain, mPlain_0, mPlain_2, mPlain_3, mPlain_10, wS_skip, wS_seq, wS_expr, wS_asg, wS_if_, wS_while_, wS_for_, wS_ret, wS_raise, wE_none, wE_bool, wE_int, wE_str, wE_loc, wE_glob, wE_bin, wE_not_, wE_cmp, wE_cmp2, wE_and_, wE_or_, wE_ite, wE_tup, wE_lst, wE_dct, wE_idx, wE_slc, wE_attr, wE_call, wE_new, wE_meth, wE_bi, wE_isi, wE_comp, wEs_nil, wEs_cons, wT_loc, wT_attr, wT_idx, wT_unp, wC_nil, wC_cons, onSome_some, isB_bool, cmp_eq, cmp_ne, cmp_lt, cmp_le, cmp_gt, cmp_ge, cmp_is_nn, cmp_is_in, cmp_is_tn, cmp_is_sn, cmp_isn_nn, cmp_isn_in, cmp_isn_tn, cmp_in_t, eqop_int, eqop_str, eqop_nn, eqop_ni, eqop_in, eqop_ns, eqop_sn, bin_add, bin_sub, idx_tup, bi_lent, bi_intb, getL0, getLs, seq0, seq1, seq2, seq3, List.map_cons, List.map_nil, List.cons_append, List.nil_append, List.set_cons_zero, List.set_cons_succ, List.length_cons, List.length_nil, Nat.reduceLT, Nat.reduceAdd, Nat.reduceSub, Nat.reduceEqDiff, if_true, if_false, decide_true, decide_false, Option.map_some, Option.map_none, Bool.not_true, Bool.not_false, getK, putK, List.replicate_succ, List.replicate_zero, true_and, and_true, List.isEmpty_nil, List.isEmpty_cons, asRef_ref, setO_list, Option.bind_some, t1, M.a02, M.a03, M.a04, t3, mAppend, hl', u1, ix_list t2, lAt_map hk]
  exact hQ _ (own_place w1 _) (((Keep.refl b h).set (w.geq (i := 5) rfl) _).set (w.geq (i := 3) rfl) _)
theorem plain_set {r b : Nat} {h : Hp} {A : MA} {nb turns i k : Int} {x : FA × Fr} {fs : List (FA × Fr)} {said : List Int} {Q : V → Hp → Prop} {X : Nat → Hp → Prop}
    (w : Own b h (cells A nb (x :: fs) said turns .none)) (hi : x.2.pi.getLast? = some i) (hk : 0 ≤ k ∧ k < x.2.bx.length) (hQ : ∀ h', Own b h' (cells A nb ((x.1, ⟨x.2.pl + 1, x.2.bx.set k.toNat i, x.2.pi.dropLast⟩) :: fs) said turns .none) → Keep b h h' → Q .none h') : callWp g (r + 2) 9 [.ref A.m, .ref x.1.a, .tup [.str 22, .int k]] h Q X := by
  refine call_enter M.f9 rfl (by decide) ?_
  generalize callWp g (r + 1) = C
  generalize callWp g r = N
  obtain ⟨t1, t2, t3⟩ := own_top w
  have w1 := own_popP w
  obtain ⟨u1, u2, u3⟩ := own_top w1
  have w2 := own_box w1 k.toNat i
  obtain ⟨v1, v2, v3⟩ := own_top w2
  dsimp only at u1 u2 v1
  have hs : setAt (x.2.bx.map V.int) k (.int i) = some ((x.2.bx.map V.int).set k.toNat (.int i)) := by unfold setAt; rw [if_pos (by rw [List.length_map]; exact hk)]
  simp only [mPlain, mPlain_0, mPlain_2, mPlain_4, mPlain_5, mPlain_10, wS_skip, wS_seq, wS_expr, wS_asg, wS_if_, wS_while_, wS_for_, wS_ret, wS_raise, wE_none, wE_bool, wE_int, wE_str, wE_loc, wE_glob, wE_bin, wE_not_, wE_cmp, wE_cmp2, wE_and_, wE_or_, wE_ite, wE_tup, wE_lst, wE_dct, wE_idx, wE_slc, wE_attr, wE_call, wE_new, wE_meth, wE_bi, wE_isi, wE_comp, wEs_nil, wEs_cons, wT_loc, wT_attr, wT_idx, wT_unp, wC_nil, wC_cons, onSome_some, isB_bool, cmp_eq, cmp_ne, cmp_lt, cmp_le, cmp_gt, cmp_ge, cmp_is_nn, cmp_is_in, cmp_is_tn, cmp_is_sn, cmp_isn_nn, cmp_isn_in, cmp_isn_tn, cmp_in_t, eqop_int, eqop_str, eqop_nn, eqop_ni, eqop_in, eqop_ns, eqop_sn, bin_add, bin_sub, idx_tup, bi_lent, bi_intb, getL0, getLs, seq0, seq1, seq2, seq3, List.map_cons, List.map_nil, List.cons_append, List.nil_append, List.set_cons_zero, List.set_cons_succ, List.length_cons, List.length_nil, Nat.reduceLT, Nat.reduceAdd, Nat.reduceSub, Nat.reduceEqDiff, if_true, if_false, decide_true, decide_false, Option.map_some, Option.map_none, Bool.not_true, Bool.not_false, getK, putK, List.replicate_succ, List.replicate_zero, true_and, and_true, List.isEmpty_nil, List.isEmpty_cons, asRef_ref, setO_list, Option.bind_some, t1, M.a02, M.a03, M.a04, t3, mPop, last_map hi, u1, u2, hs, v1]
  exact hQ _ (own_place w2 _) ((((Keep.refl b h).set (w.geq (i := 5) rfl) _).set (w.geq (i := 4) rfl) _).set (w.geq (i := 3) rfl) _)
theorem plain_say {r b : Nat} {h : Hp} {A : MA} {nb turns i : Int} {x : FA × Fr} {fs : List (FA × Fr)} {said : List Int} {Q : V → Hp → Prop} {X : Nat → Hp → Prop}
    (w : Own b h (cells A nb (x :: fs) said turns .none)) (hi : x.2.pi.getLast? = some i) (hl : said.length < lim) (hQ : ∀ h', Own b h' (cells A nb ((x.1, ⟨x.2.pl + 1, x.2.bx, x.2.pi.dropLast⟩) :: fs) (said ++ [i]) turns .none) → Keep b h h' → Q .none h') : callWp g (r + 2) 9 [.ref A.m, .ref x.1.a, .tup [.str 23]] h Q X := by
  refine call_enter M.f9 rfl (by decide) ?_
  generalize callWp g (r + 1) = C
  generalize callWp g r = N
  obtain ⟨t1, t2, t3⟩ := own_top w
  obtain ⟨m1, m2, m3⟩ := own_mill w
  have w1 := own_popP w
  obtain ⟨u1, u2, u3⟩ := own_top w1
  obtain ⟨n1, n2, n3⟩ := own_mill w1
  have w2 := own_say w1 i
  obtain ⟨v1, v2, v3⟩ := own_top w2
  dsimp only at u1 n2 v1
  have hl' : (said.map V.int).length < lim := by rw [List.length_map]; exact hl
  simp only [mPlain, mPlain_0, mPlain_2, mPlain_4, mPlain_6, mPlain_7, mPlain_10, wS_skip, wS_seq, wS_expr, wS_asg, wS_if_, wS_while_, wS_for_, wS_ret, wS_raise, wE_none, wE_bool, wE_int, wE_str, wE_loc, wE_glob, wE_bin, wE_not_, wE_cmp, wE_cmp2, wE_and_, wE_or_, wE_ite, wE_tup, wE_lst, wE_dct, wE_idx, wE_slc, wE_attr, wE_call, wE_new, wE_meth, wE_bi, wE_isi, wE_comp, wEs_nil, wEs_cons, wT_loc, wT_attr, wT_idx, wT_unp, wC_nil, wC_cons, onSome_some, isB_bool, cmp_eq, cmp_ne, cmp_lt, cmp_le, cmp_gt, cmp_ge, cmp_is_nn, cmp_is_in, cmp_is_tn, cmp_is_sn, cmp_isn_nn, cmp_isn_in, cmp_isn_tn, cmp_in_t, eqop_int, eqop_str, eqop_nn, eqop_ni, eqop_in, eqop_ns, eqop_sn, bin_add, bin_sub, idx_tup, bi_lent, bi_intb, getL0, getLs, seq0, seq1, seq2, seq3, List.map_cons, List.map_nil, List.cons_append, List.nil_append, List.set_cons_zero, List.set_cons_succ, List.length_cons, List.length_nil, Nat.reduceLT, Nat.reduceAdd, Nat.reduceSub, Nat.reduceEqDiff, if_true, if_false, decide_true, decide_false, Option.map_some, Option.map_none, Bool.not_true, Bool.not_false, getK, putK, List.replicate_succ, List.replicate_zero, true_and, and_true, List.isEmpty_nil, List.isEmpty_cons, asRef_ref, setO_list, Option.bind_some, m1, m2, t1, M.a02, M.a04, M.a19, t3, mPop, mAppend, last_map hi, n2, hl', v1]
  exact hQ _ (own_place w2 _) ((((Keep.refl b h).set (w.geq (i := 5) rfl) _).set (w.geq (i := 1) rfl) _).set (w.geq (i := 3) rfl) _)
theorem plain_turn {r b : Nat} {h : Hp} {A : MA} {nb turns : Int} {x : FA × Fr} {fs : List (FA × Fr)} {said : List Int} {Q : V → Hp → Prop} {X : Nat → Hp → Prop}
    (w : Own b h (cells A nb (x :: fs) said turns .none)) (h0 : turns = 0 → ∀ h', Own b h' (cells A nb (x :: fs) said turns (.tup [.ref A.said, .str 33, .int 0])) → Keep b h h' → Q .none h')
    (h1 : turns ≠ 0 → ∀ h', Own b h' (cells A nb ((x.1, ⟨x.2.pl + 1, x.2.bx, x.2.pi⟩) :: fs) said (turns - 1) .none) → Keep b h h' → Q .none h') : callWp g (r + 3) 9 [.ref A.m, .ref x.1.a, .tup [.str 32]] h Q X := by
  refine call_enter M.f9 rfl (by decide) ?_
  generalize callWp g (r + 1) = N
  obtain ⟨t1, t2, t3⟩ := own_top w
  obtain ⟨m1, m2, m3⟩ := own_mill w
  simp only [mPlain, mPlain_0, mPlain_2, mPlain_4, mPlain_6, mPlain_8, wS_skip, wS_seq, wS_expr, wS_asg, wS_if_, wS_while_, wS_for_, wS_ret, wS_raise, wE_none, wE_bool, wE_int, wE_str, wE_loc, wE_glob, wE_bin, wE_not_, wE_cmp, wE_cmp2, wE_and_, wE_or_, wE_ite, wE_tup, wE_lst, wE_dct, wE_idx, wE_slc, wE_attr, wE_call, wE_new, wE_meth, wE_bi, wE_isi, wE_comp, wEs_nil, wEs_cons, wT_loc, wT_attr, wT_idx, wT_unp, wC_nil, wC_cons, onSome_some, isB_bool, cmp_eq, cmp_ne, cmp_lt, cmp_le, cmp_gt, cmp_ge, cmp_is_nn, cmp_is_in, cmp_is_tn, cmp_is_sn, cmp_isn_nn, cmp_isn_in, cmp_isn_tn, cmp_in_t, eqop_int, eqop_str, eqop_nn, eqop_ni, eqop_in, eqop_ns, eqop_sn, bin_add, bin_sub, idx_tup, bi_lent, bi_intb, getL0, getLs, seq0, seq1, seq2, seq3, List.map_cons, List.map_nil, List.cons_append, List.nil_append, List.set_cons_zero, List.set_cons_succ, List.length_cons, List.length_nil, Nat.reduceLT, Nat.reduceAdd, Nat.reduceSub, Nat.reduceEqDiff, if_true, if_false, decide_true, decide_false, Option.map_some, Option.map_none, Bool.not_true, Bool.not_false, getK, putK, List.replicate_succ, List.replicate_zero, true_and, and_true, List.isEmpty_nil, List.isEmpty_cons, asRef_ref, setO_list, Option.bind_some, m1, M.m12]
  refine took_ok M m1 (fun e => ?_) (fun e => ?_)
  · simp only [mPlain_9, wS_skip, wS_seq, wS_expr, wS_asg, wS_if_, wS_while_, wS_for_, wS_ret, wS_raise, wE_none, wE_bool, wE_int, wE_str, wE_loc, wE_glob, wE_bin, wE_not_, wE_cmp, wE_cmp2, wE_and_, wE_or_, wE_ite, wE_tup, wE_lst, wE_dct, wE_idx, wE_slc, wE_attr, wE_call, wE_new, wE_meth, wE_bi, wE_isi, wE_comp, wEs_nil, wEs_cons, wT_loc, wT_attr, wT_idx, wT_unp, wC_nil, wC_cons, onSome_some, isB_bool, cmp_eq, cmp_ne, cmp_lt, cmp_le, cmp_gt, cmp_ge, cmp_is_nn, cmp_is_in, cmp_is_tn, cmp_is_sn, cmp_isn_nn, cmp_isn_in, cmp_isn_tn, cmp_in_t, eqop_int, eqop_str, eqop_nn, eqop_ni, eqop_in, eqop_ns, eqop_sn, bin_add, bin_sub, idx_tup, bi_lent, bi_intb, getL0, getLs, seq0, seq1, seq2, seq3, List.map_cons, List.map_nil, List.cons_append, List.nil_append, List.set_cons_zero, List.set_cons_succ, List.length_cons, List.length_nil, Nat.reduceLT, Nat.reduceAdd, Nat.reduceSub, Nat.reduceEqDiff, if_true, if_false, decide_true, decide_false, Option.map_some, Option.map_none, Bool.not_true, Bool.not_false, getK, putK, List.replicate_succ, List.replicate_zero, true_and, and_true, List.isEmpty_nil, List.isEmpty_cons, asRef_ref, setO_list, Option.bind_some]
    exact h0 e _ (own_mil w _ _) ((Keep.refl b h).set (w.geq (i := 0) rfl) _)
  · have w1 := own_mil w (turns - 1) .none
    obtain ⟨u1, u2, u3⟩ := own_top w1
    simp only [mPlain_10, wS_skip, wS_seq, wS_expr, wS_asg, wS_if_, wS_while_, wS_for_, wS_ret, wS_raise, wE_none, wE_bool, wE_int, wE_str, wE_loc, wE_glob, wE_bin, wE_not_, wE_cmp, wE_cmp2, wE_and_, wE_or_, wE_ite, wE_tup, wE_lst, wE_dct, wE_idx, wE_slc, wE_attr, wE_call, wE_new, wE_meth, wE_bi, wE_isi, wE_comp, wEs_nil, wEs_cons, wT_loc, wT_attr, wT_idx, wT_unp, wC_nil, wC_cons, onSome_some, isB_bool, cmp_eq, cmp_ne, cmp_lt, cmp_le, cmp_gt, cmp_ge, cmp_is_nn, cmp_is_in, cmp_is_tn, cmp_is_sn, cmp_isn_nn, cmp_isn_in, cmp_isn_tn, cmp_in_t, eqop_int, eqop_str, eqop_nn, eqop_ni, eqop_in, eqop_ns, eqop_sn, bin_add, bin_sub, idx_tup, bi_lent, bi_intb, getL0, getLs, seq0, seq1, seq2, seq3, List.map_cons, List.map_nil, List.cons_append, List.nil_append, List.set_cons_zero, List.set_cons_succ, List.length_cons, List.length_nil, Nat.reduceLT, Nat.reduceAdd, Nat.reduceSub, Nat.reduceEqDiff, if_true, if_false, decide_true, decide_false, Option.map_some, Option.map_none, Bool.not_true, Bool.not_false, getK, putK, List.replicate_succ, List.replicate_zero, true_and, and_true, List.isEmpty_nil, List.isEmpty_cons, asRef_ref, setO_list, Option.bind_some, u1, M.a02]
    exact h1 e _ (own_place w1 _) (((Keep.refl b h).set (w.geq (i := 0) rfl) _).set (w.geq (i := 3) rfl) _)

omit M in
theorem own_in {b : Nat} {h h' : Hp} {A : MA} {nb turns p n : Int} {fs : List (FA × Fr)} {said : List Int} {told : V} (w : Own b h (cells A nb fs said turns told))
    (hl : h'.length = h.length + 5) (ha : h'[h.length]? = some (.inst 0 [(2, .int p), (3, .ref (h.length + 3)), (4, .ref (h.length + 4))])) (hb : h'[h.length + 3]? = some (iL (boxes0 nb n))) (hp : h'[h.length + 4]? = some (iL [])) (hk : ∀ c, c < h.length → h'[c]? = h[c]?) :
    Own b h' ((h.length, .inst 0 [(2, .int p), (3, .ref (h.length + 3)), (4, .ref (h.length + 4))]) :: (h.length + 3, iL (boxes0 nb n)) :: (h.length + 4, iL []) :: cells A nb fs said turns told) := by
  refine ⟨?_, ?_, ?_, by have := w.bl; (first | lia | omega)⟩
  · have lt : ∀ a, a ∈ (cells A nb fs said turns told).map (·.1) → a < h.length := fun a ha => by
      obtain ⟨y, hy, rfl⟩ := List.mem_map.mp ha
      exact get_lt (w.at_ y hy)
    simp only [List.map_cons, List.nodup_cons, List.mem_cons, not_or]
    exact ⟨⟨by (first | lia | omega), by (first | lia | omega), fun z => by have := lt _ z; (first | lia | omega)⟩, ⟨by (first | lia | omega), fun z => by have := lt _ z; (first | lia | omega)⟩, fun z => by have := lt _ z; (first | lia | omega), w.nd⟩
  · intro y hy
    simp only [List.mem_cons] at hy
    rcases hy with rfl | rfl | rfl | hy
    · exact ha
    · exact hb
    · exact hp
    · rw [hk _ (get_lt (w.at_ y hy))]; exact w.at_ y hy
  · intro y hy
    simp only [List.mem_cons] at hy
    rcases hy with rfl | rfl | rfl | hy
    · exact w.bl
    · have := w.bl; dsimp only; (first | lia | omega)
    · have := w.bl; dsimp only; (first | lia | omega)
    · exact w.ge y hy

theorem call_ok' {r b : Nat} {h : Hp} {A : MA} {c : Co} {turns n k : Int} {x : FA × Fr} {fs : List (FA × Fr)} {said : List Int} {Q : V → Hp → Prop} {X : Nat → Hp → Prop}
    (w : Own b h (cells A c.nb (x :: fs) said turns .none)) (S : Src b h A c)
    (h0 : turns = 0 → ∀ h', Own b h' (cells A c.nb (x :: fs) said turns (.tup [.ref A.said, .str 33, .int 0])) → Keep b h h' → Q .none h')
    (h8 : turns ≠ 0 → (x :: fs).length = 8 → ∀ h' fs', Own b h' (cells A c.nb fs' said (turns - 1) (if (faultF c.str 102 ((x :: fs).map (·.2))).isEmpty then .tup [.ref A.said, .str 13, .int 102] else .none)) → fs'.map (·.2) = faultF c.str 102 ((x :: fs).map (·.2)) → Keep b h h' → Q .none h')
    (h1 : turns ≠ 0 → (x :: fs).length ≠ 8 → ∃ p, lAt c.beg k = some p ∧ 0 ≤ c.nb ∧ c.nb ≤ 1000 ∧ fs.length < 100 ∧ ∀ h' y, Own b h' (cells A c.nb ((y, ⟨p, boxes0 c.nb n, []⟩) :: x :: fs) said (turns - 1) .none) → Keep b h h' → Q .none h') : callWp g (r + 4) 5 [.ref A.m, .int k, .int n] h Q X := by
  refine call_enter M.f5 rfl (by decide) ?_
  obtain ⟨m1, m2, m3⟩ := own_mill w
  show wpS g _ _ mCall_0 ⟨[some (.ref A.m), some (.int k), some (.int n)], h⟩ _ _ _
  simp only [mCall_0, wS_skip, wS_seq, wS_expr, wS_asg, wS_if_, wS_while_, wS_for_, wS_ret, wS_raise, wE_none, wE_bool, wE_int, wE_str, wE_loc, wE_glob, wE_bin, wE_not_, wE_cmp, wE_cmp2, wE_and_, wE_or_, wE_ite, wE_tup, wE_lst, wE_dct, wE_idx, wE_slc, wE_attr, wE_call, wE_new, wE_meth, wE_bi, wE_isi, wE_comp, wEs_nil, wEs_cons, wT_loc, wT_attr, wT_idx, wT_unp, wC_nil, wC_cons, onSome_some, isB_bool, cmp_eq, cmp_ne, cmp_lt, cmp_le, cmp_gt, cmp_ge, cmp_is_nn, cmp_is_in, cmp_is_tn, cmp_is_sn, cmp_isn_nn, cmp_isn_in, cmp_isn_tn, cmp_in_t, eqop_int, eqop_str, eqop_nn, eqop_ni, eqop_in, eqop_ns, eqop_sn, bin_add, bin_sub, idx_tup, bi_lent, bi_intb, getL0, getLs, seq0, seq1, seq2, seq3, List.map_cons, List.map_nil, List.cons_append, List.nil_append, List.set_cons_zero, List.set_cons_succ, List.length_cons, List.length_nil, Nat.reduceLT, Nat.reduceAdd, Nat.reduceSub, Nat.reduceEqDiff, if_true, if_false, decide_true, decide_false, Option.map_some, Option.map_none, Bool.not_true, Bool.not_false, getK, putK, List.replicate_succ, List.replicate_zero, true_and, and_true, List.isEmpty_nil, List.isEmpty_cons, asRef_ref, setO_list, Option.bind_some, m1, M.m12]
  refine took_ok M m1 (fun e => ?_) (fun e => ?_)
  · simp only [mCall_1, wS_skip, wS_seq, wS_expr, wS_asg, wS_if_, wS_while_, wS_for_, wS_ret, wS_raise, wE_none, wE_bool, wE_int, wE_str, wE_loc, wE_glob, wE_bin, wE_not_, wE_cmp, wE_cmp2, wE_and_, wE_or_, wE_ite, wE_tup, wE_lst, wE_dct, wE_idx, wE_slc, wE_attr, wE_call, wE_new, wE_meth, wE_bi, wE_isi, wE_comp, wEs_nil, wEs_cons, wT_loc, wT_attr, wT_idx, wT_unp, wC_nil, wC_cons, onSome_some, isB_bool, cmp_eq, cmp_ne, cmp_lt, cmp_le, cmp_gt, cmp_ge, cmp_is_nn, cmp_is_in, cmp_is_tn, cmp_is_sn, cmp_isn_nn, cmp_isn_in, cmp_isn_tn, cmp_in_t, eqop_int, eqop_str, eqop_nn, eqop_ni, eqop_in, eqop_ns, eqop_sn, bin_add, bin_sub, idx_tup, bi_lent, bi_intb, getL0, getLs, seq0, seq1, seq2, seq3, List.map_cons, List.map_nil, List.cons_append, List.nil_append, List.set_cons_zero, List.set_cons_succ, List.length_cons, List.length_nil, Nat.reduceLT, Nat.reduceAdd, Nat.reduceSub, Nat.reduceEqDiff, if_true, if_false, decide_true, decide_false, Option.map_some, Option.map_none, Bool.not_true, Bool.not_false, getK, putK, List.replicate_succ, List.replicate_zero, true_and, and_true, List.isEmpty_nil, List.isEmpty_cons, asRef_ref, setO_list, Option.bind_some]
    exact h0 e _ (own_mil w _ _) ((Keep.refl b h).set (w.geq (i := 0) rfl) _)
  · have w1 := own_mil w (turns - 1) .none
    have k1 := (Keep.refl b h).set (w.geq (i := 0) rfl) (milO A c.nb (turns - 1) .none)
    obtain ⟨n1, n2, n3⟩ := own_mill w1
    generalize h.set A.m (milO A c.nb (turns - 1) .none) = h2 at *
    have el : (((List.map (fun x : FA × Fr => V.ref x.1.a) (x :: fs)).reverse.length : Nat) : Int) = ((x :: fs).length : Int) := by simp
    by_cases c8 : (x :: fs).length = 8
    · rw [c8] at el
      simp only [mCall_2, mCall_3, wS_skip, wS_seq, wS_expr, wS_asg, wS_if_, wS_while_, wS_for_, wS_ret, wS_raise, wE_none, wE_bool, wE_int, wE_str, wE_loc, wE_glob, wE_bin, wE_not_, wE_cmp, wE_cmp2, wE_and_, wE_or_, wE_ite, wE_tup, wE_lst, wE_dct, wE_idx, wE_slc, wE_attr, wE_call, wE_new, wE_meth, wE_bi, wE_isi, wE_comp, wEs_nil, wEs_cons, getL0, onSome_some, n1, M.a110, bi_len n3, el, getK, Nat.reduceEqDiff, if_true, if_false, true_and, cmp_eq, eqop_int, isB_bool, M.m13]
      refine fault_ok M w1 (S.keep k1) fun h' fs' z1 z2 z3 => ?_
      exact h8 e c8 h' fs' z1 z2 (k1.trans z3)
    · obtain ⟨p, q1, q2, q3, q4, q5⟩ := h1 e c8
      have hne : ¬ (((x :: fs).length : Int) = 8) := by (first | lia | omega)
      have hb := (S.keep k1).b
      simp only [mCall_2, mCall_4, wS_skip, wS_seq, wS_expr, wS_asg, wS_if_, wS_while_, wS_for_, wS_ret, wS_raise, wE_none, wE_bool, wE_int, wE_str, wE_loc, wE_glob, wE_bin, wE_not_, wE_cmp, wE_cmp2, wE_and_, wE_or_, wE_ite, wE_tup, wE_lst, wE_dct, wE_idx, wE_slc, wE_attr, wE_call, wE_new, wE_meth, wE_bi, wE_isi, wE_comp, wEs_nil, wEs_cons, getL0, getLs, onSome_some, n1, M.a110, bi_len n3, el, getK, Nat.reduceEqDiff, if_true, if_false, true_and, cmp_eq, eqop_int, isB_bool, hne, decide_true, decide_false, List.isEmpty_cons, n3, mAppend, M.a17, ix_list hb, lAt_map q1, M.a13, M.i0]
      refine ent_ok M (by simp) ⟨q2, q3⟩ fun h' z1 z2 z3 z4 z5 => ⟨rfl, ?_⟩
      simp only [List.length_append, List.length_cons, List.length_nil] at z1 z2 z3 z4 z5
      have k2 : ∀ c, c < h2.length → h'[c]? = h2[c]? := fun c hc => by rw [z5 c (by (first | lia | omega)) (by (first | lia | omega)), List.getElem?_append_left hc]
      have w2 := own_in w1 (by (first | lia | omega)) z2 z3 z4 k2
      have f3 := w2.get (i := 5) rfl
      have hlen : (List.map (fun x : FA × Fr => V.ref x.1.a) (x :: fs)).reverse.length < lim := by rw [List.length_reverse, List.length_map, List.length_cons]; unfold lim; (first | lia | omega)
      simp only [f3, frsO, hlen, true_and]
      refine q5 _ ⟨h2.length, h2.length + 3, h2.length + 4⟩ ?_ ((k1.trans ⟨by (first | lia | omega), fun a ha => k2 a (by have := w1.bl; (first | lia | omega))⟩).set (w1.geq (i := 2) rfl) _)
      have w3 := w2.set 5 rfl (frsO ((⟨h2.length, h2.length + 3, h2.length + 4⟩, ⟨p, boxes0 c.nb n, []⟩) :: x :: fs))
      have e3 : O.list ((List.map (fun x : FA × Fr => V.ref x.1.a) (x :: fs)).reverse ++ [V.ref h2.length]) = frsO (((⟨h2.length, h2.length + 3, h2.length + 4⟩, ⟨p, boxes0 c.nb n, []⟩) : FA × Fr) :: x :: fs) := by
        simp only [frsO, List.map_cons, List.reverse_cons]
      rw [e3]
      exact w3.perm (List.perm_append_comm (l₁ := [_, _, _]) (l₂ := [_, _, _]) |>.append_right _)
end
end Mine

end
noncomputable section
namespace Mine

noncomputable def Rep (b : Nat) (h : Hp) (A : MA) (c : Co) (s : Ma) : Prop := ∃ fs : List (FA × Fr), fs.map (·.2) = s.fr ∧ Own b h (cells A c.nb fs s.said s.turns (toldV A.said s.told))

theorem lAt_mapG {α : Type} {xs : List α} {f : α → V} {k : Int} {i : α} (e : lAt xs k = some i) : seqAt (xs.map f) k = some (f i) := by
  unfold lAt at e
  split at e
  · rename_i q; rw [seqAt_nat q, List.getElem?_map, e]; rfl
  · cases e

theorem in_ari (o : Ari) : inS (.str o.w) [.str 24, .str 25, .str 26, .str 27] = some true := by cases o <;> rfl
theorem in_n1 {k : Nat} (h : k ∉ [24, 25, 26, 27]) : inS (.str k) [.str 24, .str 25, .str 26, .str 27] = some false := by
  show some (decide (k ∈ [24, 25, 26, 27])) = _
  rw [decide_eq_false h]
theorem in_leap {k : Nat} (h : k ∈ [28, 29, 30]) : inS (.str k) [.str 28, .str 29, .str 30] = some true := by
  show some (decide (k ∈ [28, 29, 30])) = _
  rw [decide_eq_true h]
theorem in_n2 {k : Nat} (h : k ∉ [28, 29, 30]) : inS (.str k) [.str 28, .str 29, .str 30] = some false := by
  show some (decide (k ∈ [28, 29, 30])) = _
  rw [decide_eq_false h]

section
variable {g : Genv} (M : MG g)
include M

omit M in
theorem rep_fault {b : Nat} {h h' : Hp} {A : MA} {c : Co} {s : Ma} {n : Int} {fs' : List (FA × Fr)} (ht : s.told = none) (w : Own b h' (cells A c.nb fs' s.said s.turns (if (faultF c.str n s.fr).isEmpty then .tup [.ref A.said, .str 13, .int n] else .none))) (e : fs'.map (·.2) = faultF c.str n s.fr) : Rep b h' A c (s.fault c n) := by
  refine ⟨fs', ?_, ?_⟩
  · unfold Ma.fault
    rw [e]
    cases faultF c.str n s.fr <;> rfl
  · unfold Ma.fault
    cases q : faultF c.str n s.fr with
    | nil => rw [q] at w; exact w
    | cons f r => rw [q] at w; dsimp only; rw [ht]; exact w

theorem step_ok' {r b : Nat} {h : Hp} {A : MA} {c : Co} {s s' : Ma} {Q : V → Hp → Prop} {X : Nat → Hp → Prop} (w : Rep b h A c s) (S : Src b h A c) (ht : s.told = none) (hs : mstep c s = some s') (h8 : s.fr.length ≤ 8)
    (hQ : ∀ h', Rep b h' A c s' → Keep b h h' → Q .none h') : callWp g (r + 6) 10 [.ref A.m] h Q X := by
  refine call_enter M.f10 rfl (by decide) ?_
  generalize callWp g (r + 4) = N
  obtain ⟨fs, e, w⟩ := w
  obtain ⟨fr, said, turns, told⟩ := s
  dsimp only at ht e w h8
  subst ht
  subst e
  cases fs with
  | nil => cases hs
  | cons x fs =>
    obtain ⟨x1, ⟨pl, bx, pi⟩⟩ := x
    change (match lAt c.code pl with | none => none | some row => mrow c ⟨_, said, turns, none⟩ ⟨pl, bx, pi⟩ (fs.map (·.2)) row) = some s' at hs
    obtain ⟨m1, m2, m3⟩ := own_mill w
    obtain ⟨t1, t2, t3⟩ := own_top w
    simp only [List.map_cons, List.reverse_cons] at m3
    dsimp only [toldV] at t1 t2 t3 m1 w
    cases hr : lAt c.code pl with
    | none => rw [hr] at hs; cases hs
    | some row =>
      rw [hr] at hs
      have hrow := lAt_mapG (f := Row.v) hr
      show wpS g _ N mStep_0 ⟨[some (.ref A.m), none, none, none], h⟩ _ _ _
      simp only [mStep_0, mStep_1, wS_skip, wS_seq, wS_expr, wS_asg, wS_if_, wS_while_, wS_for_, wS_ret, wS_raise, wE_none, wE_bool, wE_int, wE_str, wE_loc, wE_glob, wE_bin, wE_not_, wE_cmp, wE_cmp2, wE_and_, wE_or_, wE_ite, wE_tup, wE_lst, wE_dct, wE_idx, wE_slc, wE_attr, wE_call, wE_new, wE_meth, wE_bi, wE_isi, wE_comp, wEs_nil, wEs_cons, wT_loc, wT_attr, wT_idx, wT_unp, wC_nil, wC_cons, onSome_some, isB_bool, cmp_eq, cmp_ne, cmp_lt, cmp_le, cmp_gt, cmp_ge, cmp_is_nn, cmp_is_in, cmp_is_tn, cmp_is_sn, cmp_isn_nn, cmp_isn_in, cmp_isn_tn, cmp_in_t, eqop_int, eqop_str, eqop_nn, eqop_ni, eqop_in, eqop_ns, eqop_sn, bin_add, bin_sub, idx_tup, bi_lent, bi_intb, getL0, getLs, seq0, seq1, seq2, seq3, List.map_cons, List.map_nil, List.cons_append, List.nil_append, List.set_cons_zero, List.set_cons_succ, List.length_cons, List.length_nil, Nat.reduceLT, Nat.reduceAdd, Nat.reduceSub, Nat.reduceEqDiff, if_true, if_false, decide_true, decide_false, Option.map_some, Option.map_none, Bool.not_true, Bool.not_false, getK, putK, List.replicate_succ, List.replicate_zero, true_and, and_true, List.isEmpty_nil, List.isEmpty_cons, asRef_ref, setO_list, Option.bind_some, m1, M.a110, ix_list m3, seqAt_last, M.a15, t1, M.a02, ix_list S.r, hrow]
      cases row with
      | put i =>
        dsimp only [mrow] at hs
        split at hs
        · rename_i hl
          cases hs
          simp only [mStep_2, mStep_3, mStep_5, mStep_7, mStep_9, mStep_11, mStep_13, Row.v, wS_skip, wS_seq, wS_expr, wS_asg, wS_if_, wS_while_, wS_for_, wS_ret, wS_raise, wE_none, wE_bool, wE_int, wE_str, wE_loc, wE_glob, wE_bin, wE_not_, wE_cmp, wE_cmp2, wE_and_, wE_or_, wE_ite, wE_tup, wE_lst, wE_dct, wE_idx, wE_slc, wE_attr, wE_call, wE_new, wE_meth, wE_bi, wE_isi, wE_comp, wEs_nil, wEs_cons, wT_loc, wT_attr, wT_idx, wT_unp, wC_nil, wC_cons, onSome_some, isB_bool, cmp_eq, cmp_ne, cmp_lt, cmp_le, cmp_gt, cmp_ge, cmp_is_nn, cmp_is_in, cmp_is_tn, cmp_is_sn, cmp_isn_nn, cmp_isn_in, cmp_isn_tn, cmp_in_t, eqop_int, eqop_str, eqop_nn, eqop_ni, eqop_in, eqop_ns, eqop_sn, bin_add, bin_sub, idx_tup, bi_lent, bi_intb, getL0, getLs, seq0, seq1, seq2, seq3, List.map_cons, List.map_nil, List.cons_append, List.nil_append, List.set_cons_zero, List.set_cons_succ, List.length_cons, List.length_nil, Nat.reduceLT, Nat.reduceAdd, Nat.reduceSub, Nat.reduceEqDiff, if_true, if_false, decide_true, decide_false, Option.map_some, Option.map_none, Bool.not_true, Bool.not_false, getK, putK, List.replicate_succ, List.replicate_zero, true_and, and_true, List.isEmpty_nil, List.isEmpty_cons, asRef_ref, setO_list, Option.bind_some, in_n1 (k := 20) (by decide), in_n2 (k := 20) (by decide), m1, M.m18]
          exact plain_put M w hl fun h' z1 z2 => hQ h' ⟨_, rfl, z1⟩ z2
        · cases hs
      | get k =>
        dsimp only [mrow] at hs
        cases hk : lAt bx k with
        | none => rw [hk] at hs; cases hs
        | some i =>
          rw [hk] at hs
          dsimp only [mrow] at hs
          split at hs
          · rename_i hl
            cases hs
            simp only [mStep_2, mStep_3, mStep_5, mStep_7, mStep_9, mStep_11, mStep_13, Row.v, wS_skip, wS_seq, wS_expr, wS_asg, wS_if_, wS_while_, wS_for_, wS_ret, wS_raise, wE_none, wE_bool, wE_int, wE_str, wE_loc, wE_glob, wE_bin, wE_not_, wE_cmp, wE_cmp2, wE_and_, wE_or_, wE_ite, wE_tup, wE_lst, wE_dct, wE_idx, wE_slc, wE_attr, wE_call, wE_new, wE_meth, wE_bi, wE_isi, wE_comp, wEs_nil, wEs_cons, wT_loc, wT_attr, wT_idx, wT_unp, wC_nil, wC_cons, onSome_some, isB_bool, cmp_eq, cmp_ne, cmp_lt, cmp_le, cmp_gt, cmp_ge, cmp_is_nn, cmp_is_in, cmp_is_tn, cmp_is_sn, cmp_isn_nn, cmp_isn_in, cmp_isn_tn, cmp_in_t, eqop_int, eqop_str, eqop_nn, eqop_ni, eqop_in, eqop_ns, eqop_sn, bin_add, bin_sub, idx_tup, bi_lent, bi_intb, getL0, getLs, seq0, seq1, seq2, seq3, List.map_cons, List.map_nil, List.cons_append, List.nil_append, List.set_cons_zero, List.set_cons_succ, List.length_cons, List.length_nil, Nat.reduceLT, Nat.reduceAdd, Nat.reduceSub, Nat.reduceEqDiff, if_true, if_false, decide_true, decide_false, Option.map_some, Option.map_none, Bool.not_true, Bool.not_false, getK, putK, List.replicate_succ, List.replicate_zero, true_and, and_true, List.isEmpty_nil, List.isEmpty_cons, asRef_ref, setO_list, Option.bind_some, in_n1 (k := 21) (by decide), in_n2 (k := 21) (by decide), m1, M.m18]
            exact plain_get M w hk hl fun h' z1 z2 => hQ h' ⟨_, rfl, z1⟩ z2
          · cases hs
      | set k =>
        dsimp only [mrow] at hs
        cases hi : pi.getLast? with
        | none => rw [hi] at hs; cases hs
        | some i =>
          rw [hi] at hs
          dsimp only [mrow] at hs
          split at hs
          · rename_i hk
            cases hs
            simp only [mStep_2, mStep_3, mStep_5, mStep_7, mStep_9, mStep_11, mStep_13, Row.v, wS_skip, wS_seq, wS_expr, wS_asg, wS_if_, wS_while_, wS_for_, wS_ret, wS_raise, wE_none, wE_bool, wE_int, wE_str, wE_loc, wE_glob, wE_bin, wE_not_, wE_cmp, wE_cmp2, wE_and_, wE_or_, wE_ite, wE_tup, wE_lst, wE_dct, wE_idx, wE_slc, wE_attr, wE_call, wE_new, wE_meth, wE_bi, wE_isi, wE_comp, wEs_nil, wEs_cons, wT_loc, wT_attr, wT_idx, wT_unp, wC_nil, wC_cons, onSome_some, isB_bool, cmp_eq, cmp_ne, cmp_lt, cmp_le, cmp_gt, cmp_ge, cmp_is_nn, cmp_is_in, cmp_is_tn, cmp_is_sn, cmp_isn_nn, cmp_isn_in, cmp_isn_tn, cmp_in_t, eqop_int, eqop_str, eqop_nn, eqop_ni, eqop_in, eqop_ns, eqop_sn, bin_add, bin_sub, idx_tup, bi_lent, bi_intb, getL0, getLs, seq0, seq1, seq2, seq3, List.map_cons, List.map_nil, List.cons_append, List.nil_append, List.set_cons_zero, List.set_cons_succ, List.length_cons, List.length_nil, Nat.reduceLT, Nat.reduceAdd, Nat.reduceSub, Nat.reduceEqDiff, if_true, if_false, decide_true, decide_false, Option.map_some, Option.map_none, Bool.not_true, Bool.not_false, getK, putK, List.replicate_succ, List.replicate_zero, true_and, and_true, List.isEmpty_nil, List.isEmpty_cons, asRef_ref, setO_list, Option.bind_some, in_n1 (k := 22) (by decide), in_n2 (k := 22) (by decide), m1, M.m18]
            exact plain_set M w hi hk fun h' z1 z2 => hQ h' ⟨_, rfl, z1⟩ z2
          · cases hs
      | say =>
        dsimp only [mrow] at hs
        cases hi : pi.getLast? with
        | none => rw [hi] at hs; cases hs
        | some i =>
          rw [hi] at hs
          dsimp only [mrow] at hs
          split at hs
          · rename_i hl
            cases hs
            simp only [mStep_2, mStep_3, mStep_5, mStep_7, mStep_9, mStep_11, mStep_13, Row.v, wS_skip, wS_seq, wS_expr, wS_asg, wS_if_, wS_while_, wS_for_, wS_ret, wS_raise, wE_none, wE_bool, wE_int, wE_str, wE_loc, wE_glob, wE_bin, wE_not_, wE_cmp, wE_cmp2, wE_and_, wE_or_, wE_ite, wE_tup, wE_lst, wE_dct, wE_idx, wE_slc, wE_attr, wE_call, wE_new, wE_meth, wE_bi, wE_isi, wE_comp, wEs_nil, wEs_cons, wT_loc, wT_attr, wT_idx, wT_unp, wC_nil, wC_cons, onSome_some, isB_bool, cmp_eq, cmp_ne, cmp_lt, cmp_le, cmp_gt, cmp_ge, cmp_is_nn, cmp_is_in, cmp_is_tn, cmp_is_sn, cmp_isn_nn, cmp_isn_in, cmp_isn_tn, cmp_in_t, eqop_int, eqop_str, eqop_nn, eqop_ni, eqop_in, eqop_ns, eqop_sn, bin_add, bin_sub, idx_tup, bi_lent, bi_intb, getL0, getLs, seq0, seq1, seq2, seq3, List.map_cons, List.map_nil, List.cons_append, List.nil_append, List.set_cons_zero, List.set_cons_succ, List.length_cons, List.length_nil, Nat.reduceLT, Nat.reduceAdd, Nat.reduceSub, Nat.reduceEqDiff, if_true, if_false, decide_true, decide_false, Option.map_some, Option.map_none, Bool.not_true, Bool.not_false, getK, putK, List.replicate_succ, List.replicate_zero, true_and, and_true, List.isEmpty_nil, List.isEmpty_cons, asRef_ref, setO_list, Option.bind_some, in_n1 (k := 23) (by decide), in_n2 (k := 23) (by decide), m1, M.m18]
            exact plain_say M w hi hl fun h' z1 z2 => hQ h' ⟨_, rfl, z1⟩ z2
          · cases hs
      | turn =>
        dsimp only [mrow] at hs
        simp only [mStep_2, mStep_3, mStep_5, mStep_7, mStep_9, mStep_11, mStep_13, Row.v, wS_skip, wS_seq, wS_expr, wS_asg, wS_if_, wS_while_, wS_for_, wS_ret, wS_raise, wE_none, wE_bool, wE_int, wE_str, wE_loc, wE_glob, wE_bin, wE_not_, wE_cmp, wE_cmp2, wE_and_, wE_or_, wE_ite, wE_tup, wE_lst, wE_dct, wE_idx, wE_slc, wE_attr, wE_call, wE_new, wE_meth, wE_bi, wE_isi, wE_comp, wEs_nil, wEs_cons, wT_loc, wT_attr, wT_idx, wT_unp, wC_nil, wC_cons, onSome_some, isB_bool, cmp_eq, cmp_ne, cmp_lt, cmp_le, cmp_gt, cmp_ge, cmp_is_nn, cmp_is_in, cmp_is_tn, cmp_is_sn, cmp_isn_nn, cmp_isn_in, cmp_isn_tn, cmp_in_t, eqop_int, eqop_str, eqop_nn, eqop_ni, eqop_in, eqop_ns, eqop_sn, bin_add, bin_sub, idx_tup, bi_lent, bi_intb, getL0, getLs, seq0, seq1, seq2, seq3, List.map_cons, List.map_nil, List.cons_append, List.nil_append, List.set_cons_zero, List.set_cons_succ, List.length_cons, List.length_nil, Nat.reduceLT, Nat.reduceAdd, Nat.reduceSub, Nat.reduceEqDiff, if_true, if_false, decide_true, decide_false, Option.map_some, Option.map_none, Bool.not_true, Bool.not_false, getK, putK, List.replicate_succ, List.replicate_zero, true_and, and_true, List.isEmpty_nil, List.isEmpty_cons, asRef_ref, setO_list, Option.bind_some, in_n1 (k := 32) (by decide), in_n2 (k := 32) (by decide), m1, M.m18]
        refine plain_turn M w (fun e h' z1 z2 => ?_) (fun e h' z1 z2 => ?_)
        · rw [if_pos e] at hs; cases hs; exact hQ h' ⟨_, rfl, z1⟩ z2
        · rw [if_neg e] at hs; cases hs; exact hQ h' ⟨_, rfl, z1⟩ z2
      | ari o =>
        dsimp only [mrow] at hs
        cases hj : pi.getLast? with
        | none => rw [hj] at hs; cases hs
        | some j =>
          cases hi : pi.dropLast.getLast? with
          | none => rw [hj, hi] at hs; cases hs
          | some i =>
            rw [hj, hi] at hs
            dsimp only [mrow] at hs
            have hw : ¬ o.w = 14 ∧ ¬ o.w = 15 ∧ ¬ o.w = 31 := by cases o <;> decide
            simp only [mStep_2, mStep_3, mStep_5, mStep_7, mStep_9, mStep_10, Row.v, wS_skip, wS_seq, wS_expr, wS_asg, wS_if_, wS_while_, wS_for_, wS_ret, wS_raise, wE_none, wE_bool, wE_int, wE_str, wE_loc, wE_glob, wE_bin, wE_not_, wE_cmp, wE_cmp2, wE_and_, wE_or_, wE_ite, wE_tup, wE_lst, wE_dct, wE_idx, wE_slc, wE_attr, wE_call, wE_new, wE_meth, wE_bi, wE_isi, wE_comp, wEs_nil, wEs_cons, wT_loc, wT_attr, wT_idx, wT_unp, wC_nil, wC_cons, onSome_some, isB_bool, cmp_eq, cmp_ne, cmp_lt, cmp_le, cmp_gt, cmp_ge, cmp_is_nn, cmp_is_in, cmp_is_tn, cmp_is_sn, cmp_isn_nn, cmp_isn_in, cmp_isn_tn, cmp_in_t, eqop_int, eqop_str, eqop_nn, eqop_ni, eqop_in, eqop_ns, eqop_sn, bin_add, bin_sub, idx_tup, bi_lent, bi_intb, getL0, getLs, seq0, seq1, seq2, seq3, List.map_cons, List.map_nil, List.cons_append, List.nil_append, List.set_cons_zero, List.set_cons_succ, List.length_cons, List.length_nil, Nat.reduceLT, Nat.reduceAdd, Nat.reduceSub, Nat.reduceEqDiff, if_true, if_false, decide_true, decide_false, Option.map_some, Option.map_none, Bool.not_true, Bool.not_false, getK, putK, List.replicate_succ, List.replicate_zero, true_and, and_true, List.isEmpty_nil, List.isEmpty_cons, asRef_ref, setO_list, Option.bind_some, in_ari, hw.1, hw.2.1, hw.2.2, m1, M.m16]
            by_cases hz : o = .share ∧ j = 0
            · rw [if_pos hz] at hs
              cases hs
              refine reck_ok M w S hj hi (fun e => (e hz).elim) (fun _ h' fs' z1 z2 z3 => hQ h' ?_ z3) (fun e => (e hz).elim)
              exact rep_fault (h := h) (s := ⟨_, said, turns, none⟩) rfl z1 z2
            · rw [if_neg hz] at hs
              split at hs
              · rename_i hl
                cases hs
                exact reck_ok M w S hj hi (fun _ => hl) (fun e => (hz e).elim) (fun _ h' z1 z2 => hQ h' ⟨_, rfl, z1⟩ z2)
              · cases hs
      | go p =>
        cases hs
        simp only [mStep_2, mStep_3, mStep_5, mStep_7, mStep_9, mStep_11, mStep_12, Row.v, wS_skip, wS_seq, wS_expr, wS_asg, wS_if_, wS_while_, wS_for_, wS_ret, wS_raise, wE_none, wE_bool, wE_int, wE_str, wE_loc, wE_glob, wE_bin, wE_not_, wE_cmp, wE_cmp2, wE_and_, wE_or_, wE_ite, wE_tup, wE_lst, wE_dct, wE_idx, wE_slc, wE_attr, wE_call, wE_new, wE_meth, wE_bi, wE_isi, wE_comp, wEs_nil, wEs_cons, wT_loc, wT_attr, wT_idx, wT_unp, wC_nil, wC_cons, onSome_some, isB_bool, cmp_eq, cmp_ne, cmp_lt, cmp_le, cmp_gt, cmp_ge, cmp_is_nn, cmp_is_in, cmp_is_tn, cmp_is_sn, cmp_isn_nn, cmp_isn_in, cmp_isn_tn, cmp_in_t, eqop_int, eqop_str, eqop_nn, eqop_ni, eqop_in, eqop_ns, eqop_sn, bin_add, bin_sub, idx_tup, bi_lent, bi_intb, getL0, getLs, seq0, seq1, seq2, seq3, List.map_cons, List.map_nil, List.cons_append, List.nil_append, List.set_cons_zero, List.set_cons_succ, List.length_cons, List.length_nil, Nat.reduceLT, Nat.reduceAdd, Nat.reduceSub, Nat.reduceEqDiff, if_true, if_false, decide_true, decide_false, Option.map_some, Option.map_none, Bool.not_true, Bool.not_false, getK, putK, List.replicate_succ, List.replicate_zero, true_and, and_true, List.isEmpty_nil, List.isEmpty_cons, asRef_ref, setO_list, Option.bind_some, in_n1 (k := 28) (by decide), in_leap (k := 28) (by decide), m1, M.m17]
        exact leap_go M w (hQ _ ⟨_, rfl, own_place w _⟩ ((Keep.refl b h).set (w.geq (i := 3) rfl) _))
      | nought p =>
        dsimp only [mrow] at hs
        cases hi : pi.getLast? with
        | none => rw [hi] at hs; cases hs
        | some i =>
          rw [hi] at hs
          cases hs
          simp only [mStep_2, mStep_3, mStep_5, mStep_7, mStep_9, mStep_11, mStep_12, Row.v, wS_skip, wS_seq, wS_expr, wS_asg, wS_if_, wS_while_, wS_for_, wS_ret, wS_raise, wE_none, wE_bool, wE_int, wE_str, wE_loc, wE_glob, wE_bin, wE_not_, wE_cmp, wE_cmp2, wE_and_, wE_or_, wE_ite, wE_tup, wE_lst, wE_dct, wE_idx, wE_slc, wE_attr, wE_call, wE_new, wE_meth, wE_bi, wE_isi, wE_comp, wEs_nil, wEs_cons, wT_loc, wT_attr, wT_idx, wT_unp, wC_nil, wC_cons, onSome_some, isB_bool, cmp_eq, cmp_ne, cmp_lt, cmp_le, cmp_gt, cmp_ge, cmp_is_nn, cmp_is_in, cmp_is_tn, cmp_is_sn, cmp_isn_nn, cmp_isn_in, cmp_isn_tn, cmp_in_t, eqop_int, eqop_str, eqop_nn, eqop_ni, eqop_in, eqop_ns, eqop_sn, bin_add, bin_sub, idx_tup, bi_lent, bi_intb, getL0, getLs, seq0, seq1, seq2, seq3, List.map_cons, List.map_nil, List.cons_append, List.nil_append, List.set_cons_zero, List.set_cons_succ, List.length_cons, List.length_nil, Nat.reduceLT, Nat.reduceAdd, Nat.reduceSub, Nat.reduceEqDiff, if_true, if_false, decide_true, decide_false, Option.map_some, Option.map_none, Bool.not_true, Bool.not_false, getK, putK, List.replicate_succ, List.replicate_zero, true_and, and_true, List.isEmpty_nil, List.isEmpty_cons, asRef_ref, setO_list, Option.bind_some, in_n1 (k := 29) (by decide), in_leap (k := 29) (by decide), m1, M.m17]
          exact leap_nought M w hi (hQ _ ⟨_, rfl, own_place (own_popP w) _⟩ (((Keep.refl b h).set (w.geq (i := 5) rfl) _).set (w.geq (i := 3) rfl) _))
      | on k =>
        dsimp only [mrow] at hs
        cases hk : lAt bx k with
        | none => rw [hk] at hs; cases hs
        | some p =>
          rw [hk] at hs
          cases hs
          simp only [mStep_2, mStep_3, mStep_5, mStep_7, mStep_9, mStep_11, mStep_12, Row.v, wS_skip, wS_seq, wS_expr, wS_asg, wS_if_, wS_while_, wS_for_, wS_ret, wS_raise, wE_none, wE_bool, wE_int, wE_str, wE_loc, wE_glob, wE_bin, wE_not_, wE_cmp, wE_cmp2, wE_and_, wE_or_, wE_ite, wE_tup, wE_lst, wE_dct, wE_idx, wE_slc, wE_attr, wE_call, wE_new, wE_meth, wE_bi, wE_isi, wE_comp, wEs_nil, wEs_cons, wT_loc, wT_attr, wT_idx, wT_unp, wC_nil, wC_cons, onSome_some, isB_bool, cmp_eq, cmp_ne, cmp_lt, cmp_le, cmp_gt, cmp_ge, cmp_is_nn, cmp_is_in, cmp_is_tn, cmp_is_sn, cmp_isn_nn, cmp_isn_in, cmp_isn_tn, cmp_in_t, eqop_int, eqop_str, eqop_nn, eqop_ni, eqop_in, eqop_ns, eqop_sn, bin_add, bin_sub, idx_tup, bi_lent, bi_intb, getL0, getLs, seq0, seq1, seq2, seq3, List.map_cons, List.map_nil, List.cons_append, List.nil_append, List.set_cons_zero, List.set_cons_succ, List.length_cons, List.length_nil, Nat.reduceLT, Nat.reduceAdd, Nat.reduceSub, Nat.reduceEqDiff, if_true, if_false, decide_true, decide_false, Option.map_some, Option.map_none, Bool.not_true, Bool.not_false, getK, putK, List.replicate_succ, List.replicate_zero, true_and, and_true, List.isEmpty_nil, List.isEmpty_cons, asRef_ref, setO_list, Option.bind_some, in_n1 (k := 30) (by decide), in_leap (k := 30) (by decide), m1, M.m17]
          exact leap_on M w hk (hQ _ ⟨_, rfl, own_place w _⟩ ((Keep.refl b h).set (w.geq (i := 3) rfl) _))
      | call k =>
        dsimp only [mrow] at hs
        cases hi : pi.getLast? with
        | none => rw [hi] at hs; cases hs
        | some i =>
          rw [hi] at hs
          dsimp only [mrow] at hs
          have w1 := own_popP w
          have k1 := (Keep.refl b h).set (w.geq (i := 5) rfl) (.list (pi.map .int).dropLast)
          simp only [mStep_2, mStep_3, mStep_4, Row.v, wS_skip, wS_seq, wS_expr, wS_asg, wS_if_, wS_while_, wS_for_, wS_ret, wS_raise, wE_none, wE_bool, wE_int, wE_str, wE_loc, wE_glob, wE_bin, wE_not_, wE_cmp, wE_cmp2, wE_and_, wE_or_, wE_ite, wE_tup, wE_lst, wE_dct, wE_idx, wE_slc, wE_attr, wE_call, wE_new, wE_meth, wE_bi, wE_isi, wE_comp, wEs_nil, wEs_cons, wT_loc, wT_attr, wT_idx, wT_unp, wC_nil, wC_cons, onSome_some, isB_bool, cmp_eq, cmp_ne, cmp_lt, cmp_le, cmp_gt, cmp_ge, cmp_is_nn, cmp_is_in, cmp_is_tn, cmp_is_sn, cmp_isn_nn, cmp_isn_in, cmp_isn_tn, cmp_in_t, eqop_int, eqop_str, eqop_nn, eqop_ni, eqop_in, eqop_ns, eqop_sn, bin_add, bin_sub, idx_tup, bi_lent, bi_intb, getL0, getLs, seq0, seq1, seq2, seq3, List.map_cons, List.map_nil, List.cons_append, List.nil_append, List.set_cons_zero, List.set_cons_succ, List.length_cons, List.length_nil, Nat.reduceLT, Nat.reduceAdd, Nat.reduceSub, Nat.reduceEqDiff, if_true, if_false, decide_true, decide_false, Option.map_some, Option.map_none, Bool.not_true, Bool.not_false, getK, putK, List.replicate_succ, List.replicate_zero, true_and, and_true, List.isEmpty_nil, List.isEmpty_cons, asRef_ref, setO_list, Option.bind_some, m1, M.m14, t1, M.a04, t3, mPop, last_map hi]
          refine call_ok' M w1 (S.keep k1) (fun e h' z1 z2 => ?_) (fun e e8 h' fs' z1 z2 z3 => ?_) (fun e e8 => ?_)
          · rw [if_pos e] at hs; cases hs; exact hQ h' ⟨_, rfl, z1⟩ (k1.trans z2)
          · rw [if_neg e, if_pos (by simpa using e8)] at hs
            cases hs
            exact hQ h' (rep_fault (h := h) (s := ⟨_, said, turns - 1, none⟩) rfl z1 z2) (k1.trans z3)
          · rw [if_neg e, if_neg (by simpa using e8)] at hs
            cases hb : lAt c.beg k with
            | none => rw [hb] at hs; cases hs
            | some p =>
              rw [hb] at hs
              dsimp only [mrow] at hs
              split at hs
              · rename_i hn
                cases hs
                simp only [List.length_map, List.length_cons] at h8
                exact ⟨p, rfl, hn.1, hn.2, by (first | lia | omega), fun h' y z1 z2 => hQ h' ⟨_, rfl, z1⟩ (k1.trans z2)⟩
              · cases hs
      | back =>
        dsimp only [mrow] at hs
        cases hi : pi.getLast? with
        | none => rw [hi] at hs; cases hs
        | some i =>
          rw [hi] at hs
          dsimp only [mrow] at hs
          have w1 := own_popP w
          have k1 := (Keep.refl b h).set (w.geq (i := 5) rfl) (.list (pi.map .int).dropLast)
          simp only [mStep_2, mStep_3, mStep_5, mStep_6, Row.v, wS_skip, wS_seq, wS_expr, wS_asg, wS_if_, wS_while_, wS_for_, wS_ret, wS_raise, wE_none, wE_bool, wE_int, wE_str, wE_loc, wE_glob, wE_bin, wE_not_, wE_cmp, wE_cmp2, wE_and_, wE_or_, wE_ite, wE_tup, wE_lst, wE_dct, wE_idx, wE_slc, wE_attr, wE_call, wE_new, wE_meth, wE_bi, wE_isi, wE_comp, wEs_nil, wEs_cons, wT_loc, wT_attr, wT_idx, wT_unp, wC_nil, wC_cons, onSome_some, isB_bool, cmp_eq, cmp_ne, cmp_lt, cmp_le, cmp_gt, cmp_ge, cmp_is_nn, cmp_is_in, cmp_is_tn, cmp_is_sn, cmp_isn_nn, cmp_isn_in, cmp_isn_tn, cmp_in_t, eqop_int, eqop_str, eqop_nn, eqop_ni, eqop_in, eqop_ns, eqop_sn, bin_add, bin_sub, idx_tup, bi_lent, bi_intb, getL0, getLs, seq0, seq1, seq2, seq3, List.map_cons, List.map_nil, List.cons_append, List.nil_append, List.set_cons_zero, List.set_cons_succ, List.length_cons, List.length_nil, Nat.reduceLT, Nat.reduceAdd, Nat.reduceSub, Nat.reduceEqDiff, if_true, if_false, decide_true, decide_false, Option.map_some, Option.map_none, Bool.not_true, Bool.not_false, getK, putK, List.replicate_succ, List.replicate_zero, true_and, and_true, List.isEmpty_nil, List.isEmpty_cons, asRef_ref, setO_list, Option.bind_some, m1, M.m15, t1, M.a04, t3, mPop, last_map hi]
          refine back_ok M w1 ?_
          cases fs with
          | nil =>
            cases hs
            exact fun h' z1 z2 => hQ h' ⟨[], rfl, z1⟩ (k1.trans z2)
          | cons y fs =>
            change (if y.2.pi.length < lim then some (Ma.mk (⟨y.2.pl + 1, y.2.bx, y.2.pi ++ [i]⟩ :: fs.map (·.2)) said turns none) else none) = some s' at hs
            split at hs
            · rename_i hl
              cases hs
              exact ⟨hl, fun h' z1 z2 => hQ h' ⟨_, rfl, z1⟩ (k1.trans z2)⟩
            · cases hs
      | raise =>
        dsimp only [mrow] at hs
        cases hi : pi.getLast? with
        | none => rw [hi] at hs; cases hs
        | some i =>
          rw [hi] at hs
          cases hs
          have w1 := own_popP w
          have k1 := (Keep.refl b h).set (w.geq (i := 5) rfl) (.list (pi.map .int).dropLast)
          simp only [mStep_2, mStep_3, mStep_5, mStep_7, mStep_8, Row.v, wS_skip, wS_seq, wS_expr, wS_asg, wS_if_, wS_while_, wS_for_, wS_ret, wS_raise, wE_none, wE_bool, wE_int, wE_str, wE_loc, wE_glob, wE_bin, wE_not_, wE_cmp, wE_cmp2, wE_and_, wE_or_, wE_ite, wE_tup, wE_lst, wE_dct, wE_idx, wE_slc, wE_attr, wE_call, wE_new, wE_meth, wE_bi, wE_isi, wE_comp, wEs_nil, wEs_cons, wT_loc, wT_attr, wT_idx, wT_unp, wC_nil, wC_cons, onSome_some, isB_bool, cmp_eq, cmp_ne, cmp_lt, cmp_le, cmp_gt, cmp_ge, cmp_is_nn, cmp_is_in, cmp_is_tn, cmp_is_sn, cmp_isn_nn, cmp_isn_in, cmp_isn_tn, cmp_in_t, eqop_int, eqop_str, eqop_nn, eqop_ni, eqop_in, eqop_ns, eqop_sn, bin_add, bin_sub, idx_tup, bi_lent, bi_intb, getL0, getLs, seq0, seq1, seq2, seq3, List.map_cons, List.map_nil, List.cons_append, List.nil_append, List.set_cons_zero, List.set_cons_succ, List.length_cons, List.length_nil, Nat.reduceLT, Nat.reduceAdd, Nat.reduceSub, Nat.reduceEqDiff, if_true, if_false, decide_true, decide_false, Option.map_some, Option.map_none, Bool.not_true, Bool.not_false, getK, putK, List.replicate_succ, List.replicate_zero, true_and, and_true, List.isEmpty_nil, List.isEmpty_cons, asRef_ref, setO_list, Option.bind_some, m1, M.m13, t1, M.a04, t3, mPop, last_map hi]
          refine fault_ok M w1 (S.keep k1) fun h' fs' z1 z2 z3 => ?_
          exact hQ h' (rep_fault (h := h) (s := ⟨_, said, turns, none⟩) rfl z1 z2) (k1.trans z3)

end
end Mine

end
noncomputable section
namespace Mine
section
variable {g : Genv} (M : MG g)
include M
omit M in
theorem own_in' {b : Nat} {h h' : Hp} {L : List Cell} {o1 o2 o3 : O} (w : Own b h L) (hl : h'.length = h.length + 5) (ha : h'[h.length]? = some o1) (hb : h'[h.length + 3]? = some o2) (hp : h'[h.length + 4]? = some o3) (hk : ∀ c, c < h.length → h'[c]? = h[c]?) :
    Own b h' ((h.length, o1) :: (h.length + 3, o2) :: (h.length + 4, o3) :: L) := by
  refine ⟨?_, ?_, ?_, by have := w.bl; (first | lia | omega)⟩
  · have lt : ∀ a, a ∈ L.map (·.1) → a < h.length := fun a ha => by
      obtain ⟨y, hy, rfl⟩ := List.mem_map.mp ha
      exact get_lt (w.at_ y hy)
    simp only [List.map_cons, List.nodup_cons, List.mem_cons, not_or]
    exact ⟨⟨by (first | lia | omega), by (first | lia | omega), fun z => by have := lt _ z; (first | lia | omega)⟩, ⟨by (first | lia | omega), fun z => by have := lt _ z; (first | lia | omega)⟩, fun z => by have := lt _ z; (first | lia | omega), w.nd⟩
  · intro y hy
    simp only [List.mem_cons] at hy
    rcases hy with rfl | rfl | rfl | hy
    · exact ha
    · exact hb
    · exact hp
    · rw [hk _ (get_lt (w.at_ y hy))]; exact w.at_ y hy
  · intro y hy
    simp only [List.mem_cons] at hy
    rcases hy with rfl | rfl | rfl | hy
    · exact w.bl
    · have := w.bl; dsimp only; (first | lia | omega)
    · have := w.bl; dsimp only; (first | lia | omega)
    · exact w.ge y hy

noncomputable def startMa (p nb n turns : Int) : Ma := ⟨[⟨p, boxes0 nb n, []⟩], [], turns, none⟩

theorem mill_ok {r : Nat} {h : Hp} {c : Co} {rows str beg : Nat} {n turns p : Int} {Q : V → Hp → Prop} {X : Nat → Hp → Prop} (hr : rows < h.length) (hs : str < h.length) (hb : beg < h.length)
    (eb : h[beg]? = some (iL c.beg)) (hp : lAt c.beg 0 = some p) (hn : 0 ≤ c.nb ∧ c.nb ≤ 1000)
    (hQ : ∀ (h' : Hp) (A : MA), A.m = h.length → A.rows = rows → A.str = str → A.beg = beg → Rep h.length h' A c (startMa p c.nb n turns) → Keep h.length h h' → Q .none h') :
    callWp g (r + 4) 2 [.ref h.length, .tup [.ref rows, .ref str, .ref beg, .int c.nb], .int n, .int turns] (h ++ [.inst 1 []]) Q X := by
  refine call_enter M.f2 rfl (by decide) ?_
  generalize callWp g (r + 3) = C
  have e0 : (h ++ [O.inst 1 []])[h.length]? = some (.inst 1 []) := by simp
  have e1 : ∀ o : O, ((h ++ [O.inst 1 []]).set h.length o)[h.length]? = some o := fun o => List.getElem?_set_self (by simp)
  have w0 : Own h.length (h ++ [O.inst 1 []]) [(h.length, .inst 1 [])] := (Own.nil (Nat.le_refl _)).alloc _
  have w1 := (w0.set 0 rfl (.inst 1 [(5, .ref rows), (6, .ref str), (7, .ref beg), (3, .int c.nb), (8, .int turns)])).alloc (.list [])
  have k1 := (((Keep.refl h.length h).app (Nat.le_refl _) (.inst 1 [])).set (Nat.le_refl _) (.inst 1 [(5, .ref rows), (6, .ref str), (7, .ref beg), (3, .int c.nb), (8, .int turns)])).app (Nat.le_refl _) (.list [])
  have l1 : ((h ++ [O.inst 1 []]).set h.length (.inst 1 [(5, .ref rows), (6, .ref str), (7, .ref beg), (3, .int c.nb), (8, .int turns)])).length = h.length + 1 := by simp
  have l2 : ((h ++ [O.inst 1 []]).set h.length (.inst 1 [(5, .ref rows), (6, .ref str), (7, .ref beg), (3, .int c.nb), (8, .int turns)]) ++ [O.list []]).length = h.length + 2 := by simp
  have g1 := w1.get (i := 1) rfl
  show wpS g C _ mMill_0 ⟨[some (.ref h.length), some (.tup [.ref rows, .ref str, .ref beg, .int c.nb]), some (.int n), some (.int turns)], h ++ [.inst 1 []]⟩ _ _ _
  simp only [mMill_0, mMill_1, mMill_2, mMill_3, mMill_4, mMill_5, wS_skip, wS_seq, wS_expr, wS_asg, wS_if_, wS_while_, wS_for_, wS_ret, wS_raise, wE_none, wE_bool, wE_int, wE_str, wE_loc, wE_glob, wE_bin, wE_not_, wE_cmp, wE_cmp2, wE_and_, wE_or_, wE_ite, wE_tup, wE_lst, wE_dct, wE_idx, wE_slc, wE_attr, wE_call, wE_new, wE_meth, wE_bi, wE_isi, wE_comp, wEs_nil, wEs_cons, wT_loc, wT_attr, wT_idx, wT_unp, wC_nil, wC_cons, onSome_some, isB_bool, cmp_eq, cmp_ne, cmp_lt, cmp_le, cmp_gt, cmp_ge, cmp_is_nn, cmp_is_in, cmp_is_tn, cmp_is_sn, cmp_isn_nn, cmp_isn_in, cmp_isn_tn, cmp_in_t, eqop_int, eqop_str, eqop_nn, eqop_ni, eqop_in, eqop_ns, eqop_sn, bin_add, bin_sub, idx_tup, bi_lent, bi_intb, getL0, getLs, seq0, seq1, seq2, seq3, List.map_cons, List.map_nil, List.cons_append, List.nil_append, List.set_cons_zero, List.set_cons_succ, List.length_cons, List.length_nil, Nat.reduceLT, Nat.reduceAdd, Nat.reduceSub, Nat.reduceEqDiff, if_true, if_false, decide_true, decide_false, Option.map_some, Option.map_none, Bool.not_true, Bool.not_false, getK, putK, List.replicate_succ, List.replicate_zero, true_and, and_true, List.isEmpty_nil, List.isEmpty_cons, asRef_ref, setO_list, Option.bind_some, e0, e1, List.set_set, M.a13, M.a15, M.a16, M.a17, M.a18, M.a19, g1]
  rw [l1] at w1 ⊢
  have w2 := w1.set 1 rfl (.inst 1 [(5, .ref rows), (6, .ref str), (7, .ref beg), (3, .int c.nb), (8, .int turns), (9, .ref (h.length + 1))])
  have k2 := k1.set (Nat.le_refl _) (.inst 1 [(5, .ref rows), (6, .ref str), (7, .ref beg), (3, .int c.nb), (8, .int turns), (9, .ref (h.length + 1))])
  generalize (h ++ [O.inst 1 []]).set h.length (.inst 1 [(5, .ref rows), (6, .ref str), (7, .ref beg), (3, .int c.nb), (8, .int turns)]) ++ [O.list []] = H1 at *
  have l3 : (H1.set h.length (.inst 1 [(5, .ref rows), (6, .ref str), (7, .ref beg), (3, .int c.nb), (8, .int turns), (9, .ref (h.length + 1))])).length = h.length + 2 := by rw [List.length_set]; exact l2
  generalize H1.set h.length (.inst 1 [(5, .ref rows), (6, .ref str), (7, .ref beg), (3, .int c.nb), (8, .int turns), (9, .ref (h.length + 1))]) = H2 at *
  have g2 := w2.get (i := 1) rfl
  have gb : H2[beg]? = some (.list (c.beg.map .int)) := (k2.2 _ hb).trans eb
  simp only [mMill_6, wS_skip, wS_seq, wS_expr, wS_asg, wS_if_, wS_while_, wS_for_, wS_ret, wS_raise, wE_none, wE_bool, wE_int, wE_str, wE_loc, wE_glob, wE_bin, wE_not_, wE_cmp, wE_cmp2, wE_and_, wE_or_, wE_ite, wE_tup, wE_lst, wE_dct, wE_idx, wE_slc, wE_attr, wE_call, wE_new, wE_meth, wE_bi, wE_isi, wE_comp, wEs_nil, wEs_cons, wT_loc, wT_attr, wT_idx, wT_unp, wC_nil, wC_cons, onSome_some, isB_bool, cmp_eq, cmp_ne, cmp_lt, cmp_le, cmp_gt, cmp_ge, cmp_is_nn, cmp_is_in, cmp_is_tn, cmp_is_sn, cmp_isn_nn, cmp_isn_in, cmp_isn_tn, cmp_in_t, eqop_int, eqop_str, eqop_nn, eqop_ni, eqop_in, eqop_ns, eqop_sn, bin_add, bin_sub, idx_tup, bi_lent, bi_intb, getL0, getLs, seq0, seq1, seq2, seq3, List.map_cons, List.map_nil, List.cons_append, List.nil_append, List.set_cons_zero, List.set_cons_succ, List.length_cons, List.length_nil, Nat.reduceLT, Nat.reduceAdd, Nat.reduceSub, Nat.reduceEqDiff, if_true, if_false, decide_true, decide_false, Option.map_some, Option.map_none, Bool.not_true, Bool.not_false, getK, putK, List.replicate_succ, List.replicate_zero, true_and, and_true, List.isEmpty_nil, List.isEmpty_cons, asRef_ref, setO_list, Option.bind_some, g2, M.a17, ix_list gb, lAt_map hp, M.a13, M.i0]
  refine ent_ok M (by simp) hn fun h' z1 z2 z3 z4 z5 => ⟨rfl, ?_⟩
  simp only [List.length_append, List.length_cons, List.length_nil] at z1 z2 z3 z4 z5
  have k3 : ∀ c, c < H2.length → h'[c]? = H2[c]? := fun c hc => by rw [z5 c (by (first | lia | omega)) (by (first | lia | omega)), List.getElem?_append_left hc]
  have w3 := own_in' w2 (by (first | lia | omega)) z2 z3 z4 k3
  have w4 := w3.alloc (.list [.ref H2.length])
  have g4 := w4.get (i := 5) rfl
  have w5 := w4.set 5 rfl (.inst 1 [(5, .ref rows), (6, .ref str), (7, .ref beg), (3, .int c.nb), (8, .int turns), (9, .ref (h.length + 1)), (10, .ref h'.length)])
  have g5 := w5.get (i := 5) rfl
  simp only [mMill_7, wS_skip, wS_seq, wS_expr, wS_asg, wS_if_, wS_while_, wS_for_, wS_ret, wS_raise, wE_none, wE_bool, wE_int, wE_str, wE_loc, wE_glob, wE_bin, wE_not_, wE_cmp, wE_cmp2, wE_and_, wE_or_, wE_ite, wE_tup, wE_lst, wE_dct, wE_idx, wE_slc, wE_attr, wE_call, wE_new, wE_meth, wE_bi, wE_isi, wE_comp, wEs_nil, wEs_cons, wT_loc, wT_attr, wT_idx, wT_unp, wC_nil, wC_cons, onSome_some, isB_bool, cmp_eq, cmp_ne, cmp_lt, cmp_le, cmp_gt, cmp_ge, cmp_is_nn, cmp_is_in, cmp_is_tn, cmp_is_sn, cmp_isn_nn, cmp_isn_in, cmp_isn_tn, cmp_in_t, eqop_int, eqop_str, eqop_nn, eqop_ni, eqop_in, eqop_ns, eqop_sn, bin_add, bin_sub, idx_tup, bi_lent, bi_intb, getL0, getLs, seq0, seq1, seq2, seq3, List.map_cons, List.map_nil, List.cons_append, List.nil_append, List.set_cons_zero, List.set_cons_succ, List.length_cons, List.length_nil, Nat.reduceLT, Nat.reduceAdd, Nat.reduceSub, Nat.reduceEqDiff, if_true, if_false, decide_true, decide_false, Option.map_some, Option.map_none, Bool.not_true, Bool.not_false, getK, putK, List.replicate_succ, List.replicate_zero, true_and, and_true, List.isEmpty_nil, List.isEmpty_cons, asRef_ref, setO_list, Option.bind_some, g4, M.a110, M.a111, g5]
  have w6 := w5.set 5 rfl (.inst 1 [(5, .ref rows), (6, .ref str), (7, .ref beg), (3, .int c.nb), (8, .int turns), (9, .ref (h.length + 1)), (10, .ref h'.length), (11, .none)])
  have k4 : Keep h.length h h' := k2.trans ⟨by (first | lia | omega), fun a ha => k3 a (by (first | lia | omega))⟩
  refine hQ _ ⟨h.length, h.length + 1, h'.length, rows, str, beg⟩ rfl rfl rfl rfl ⟨[(⟨H2.length, H2.length + 3, H2.length + 4⟩, ⟨p, boxes0 c.nb n, []⟩)], rfl, ?_⟩ (((k4.app (Nat.le_refl _) _).set (Nat.le_refl _) _).set (Nat.le_refl _) _)
  refine w6.perm ?_
  exact (List.perm_append_comm (l₁ := [_, _, _, _]) (l₂ := [_, _])).trans (.swap _ _ _)

omit M in

noncomputable def mrun (c : Co) : Nat → Ma → Option Ma
  | 0, s => match s.told with
    | some _ => some s
    | none => none
  | n + 1, s => match s.told with
    | some _ => some s
    | none => if s.fr.length ≤ 8 then match mstep c s with
      | some s' => mrun c n s'
      | none => none else none

theorem run_ok {r n0 : Nat} {h : Hp} {c : Co} {rows str beg : Nat} {n turns p : Int} {s : Ma} {w : Nat} {i : Int} {Q : V → Hp → Prop} {X : Nat → Hp → Prop} 
    (er : h[rows]? = some (.list (c.code.map Row.v))) (es : h[str]? = some (.list (c.str.map strV))) (eb : h[beg]? = some (iL c.beg)) (hp : lAt c.beg 0 = some p) (hn : 0 ≤ c.nb ∧ c.nb ≤ 1000)
    (hm : mrun c n0 (startMa p c.nb n turns) = some s) (ht : s.told = some (w, i))
    (hQ : ∀ (h' : Hp) (a : Nat), h.length ≤ a → h'[a]? = some (iL s.said) → Keep h.length h h' → Q (.tup [.ref a, .str w, .int i]) h') :
    callWp g (r + 7) 11 [.tup [.ref rows, .ref str, .ref beg, .int c.nb], .int n, .int turns] h Q X := by
  refine call_enter M.f11 rfl (by decide) ?_
  show wpS g _ _ mRun_0 ⟨[some (.tup [.ref rows, .ref str, .ref beg, .int c.nb]), some (.int n), some (.int turns), none], h⟩ _ _ _
  rw [mRun_0, wpS_seq]
  simp only [wS_skip, wS_seq, wS_expr, wS_asg, wS_if_, wS_while_, wS_for_, wS_ret, wS_raise, wE_none, wE_bool, wE_int, wE_str, wE_loc, wE_glob, wE_bin, wE_not_, wE_cmp, wE_cmp2, wE_and_, wE_or_, wE_ite, wE_tup, wE_lst, wE_dct, wE_idx, wE_slc, wE_attr, wE_call, wE_new, wE_meth, wE_bi, wE_isi, wE_comp, wEs_nil, wEs_cons, wT_loc, wT_attr, wT_idx, wT_unp, getL0, getLs, onSome_some, M.i1]
  refine mill_ok M (get_lt er) (get_lt es) (get_lt eb) eb hp hn fun h' A a1 a2 a3 a4 w1 k1 => ⟨rfl, ?_⟩
  have S : Src h.length h A c := ⟨by rw [a2]; exact get_lt er, by rw [a3]; exact get_lt es, by rw [a4]; exact get_lt eb, by rw [a2]; exact er, by rw [a3]; exact es, by rw [a4]; exact eb⟩
  simp only [List.length_cons, List.length_nil, List.set_cons_succ, List.set_cons_zero, Nat.reduceAdd, Nat.reduceLT, true_and]
  rw [mRun_1, wpS_seq, ← a1]
  refine while_ind (fun k σ => ∃ s1, σ.loc = [some (.tup [.ref rows, .ref str, .ref beg, .int c.nb]), some (.int n), some (.int turns), some (.ref A.m)] ∧ mrun c k s1 = some s ∧ Rep h.length σ.hp A c s1 ∧ Keep h.length h σ.hp) ?_ n0 _ ⟨_, rfl, hm, w1, k1⟩
  rintro k ⟨l, hp'⟩ K ⟨s1, e1, e2, w2, k2⟩ hK
  dsimp only at e1 w2 k2 ⊢
  subst e1
  have w2' := w2
  obtain ⟨fs, f1, f2⟩ := w2'
  obtain ⟨m1, m2, m3⟩ := own_mill f2
  cases hs1 : s1.told with
  | some q =>
    have es : s1 = s := by
      cases k with
      | zero => unfold mrun at e2; rw [hs1] at e2; exact Option.some.inj e2
      | succ k => unfold mrun at e2; rw [hs1] at e2; exact Option.some.inj e2
    subst es
    rw [ht] at m1
    simp only [wE_none, wE_bool, wE_int, wE_str, wE_loc, wE_glob, wE_bin, wE_not_, wE_cmp, wE_cmp2, wE_and_, wE_or_, wE_ite, wE_tup, wE_lst, wE_dct, wE_idx, wE_slc, wE_attr, wE_call, wE_new, wE_meth, wE_bi, wE_isi, wE_comp, getL0, getLs, onSome_some, m1, M.a111, toldV, getK, Nat.reduceEqDiff, if_true, if_false, cmp_is_tn, isB_bool, true_and, mRun_3, wS_skip, wS_seq, wS_expr, wS_asg, wS_if_, wS_while_, wS_for_, wS_ret, wS_raise]
    exact hQ _ _ (f2.geq (i := 1) rfl) m2 k2
  | none =>
    rw [hs1] at m1
    simp only [wE_none, wE_bool, wE_int, wE_str, wE_loc, wE_glob, wE_bin, wE_not_, wE_cmp, wE_cmp2, wE_and_, wE_or_, wE_ite, wE_tup, wE_lst, wE_dct, wE_idx, wE_slc, wE_attr, wE_call, wE_new, wE_meth, wE_bi, wE_isi, wE_comp, wEs_nil, wEs_cons, getL0, getLs, onSome_some, m1, M.a111, toldV, getK, Nat.reduceEqDiff, if_true, if_false, cmp_is_nn, isB_bool, true_and, mRun_2, wS_skip, wS_seq, wS_expr, wS_asg, wS_if_, wS_while_, wS_for_, wS_ret, wS_raise, M.m19]
    cases k with
    | zero => unfold mrun at e2; rw [hs1] at e2; cases e2
    | succ k =>
      unfold mrun at e2
      rw [hs1] at e2
      dsimp only at e2
      split at e2
      · rename_i h8
        cases q : mstep c s1 with
        | none => rw [q] at e2; cases e2
        | some s2 =>
          rw [q] at e2
          exact step_ok' M w2 (S.keep k2) hs1 q h8 fun h'' z1 z2 => hK k _ (Nat.lt_succ_self k) ⟨s2, rfl, e2, z1, k2.trans z2⟩
      · cases e2
end

noncomputable def msteps (c : Co) : Nat → Ma → Option Ma
  | 0, s => some s
  | n + 1, s => match s.told with
    | some _ => none
    | none => if s.fr.length ≤ 8 then match mstep c s with
      | some s' => msteps c n s'
      | none => none else none
theorem msteps_one {c : Co} {s s' : Ma} (h1 : s.told = none) (h2 : s.fr.length ≤ 8) (h3 : mstep c s = some s') : msteps c 1 s = some s' := by
  show (match s.told with | some _ => none | none => if s.fr.length ≤ 8 then match mstep c s with | some s' => some s' | none => none else none) = _
  rw [h1]; dsimp only; rw [if_pos h2, h3]
theorem msteps_cases {c : Co} {n : Nat} {s s' : Ma} (h : msteps c (n + 1) s = some s') : s.told = none ∧ s.fr.length ≤ 8 ∧ ∃ s1, mstep c s = some s1 ∧ msteps c n s1 = some s' := by
  unfold msteps at h
  split at h
  · cases h
  · rename_i q
    split at h
    · rename_i q2
      split at h
      · rename_i s1 q3; exact ⟨q, q2, s1, q3, h⟩
      · cases h
    · cases h
theorem msteps_add {c : Co} : ∀ {n m : Nat} {s s' s'' : Ma}, msteps c n s = some s' → msteps c m s' = some s'' → msteps c (n + m) s = some s''
  | 0, m, s, s', s'', h1, h2 => by cases h1; rw [Nat.zero_add]; exact h2
  | n + 1, m, s, s', s'', h1, h2 => by
    obtain ⟨q1, q2, s1, q3, q4⟩ := msteps_cases h1
    have ih := msteps_add q4 h2
    rw [show n + 1 + m = n + m + 1 by (first | lia | omega)]
    unfold msteps
    rw [q1]; dsimp only; rw [if_pos q2, q3]; exact ih
theorem mrun_steps {c : Co} : ∀ {n m : Nat} {s s' t : Ma}, msteps c n s = some s' → mrun c m s' = some t → mrun c (n + m) s = some t
  | 0, m, s, s', s'', h1, h2 => by cases h1; rw [Nat.zero_add]; exact h2
  | n + 1, m, s, s', s'', h1, h2 => by
    obtain ⟨q1, q2, s1, q3, q4⟩ := msteps_cases h1
    have ih := mrun_steps q4 h2
    rw [show n + 1 + m = n + m + 1 by (first | lia | omega)]
    unfold mrun
    rw [q1]; dsimp only; rw [if_pos q2, q3]; exact ih
theorem mrun_end {c : Co} {s : Ma} {w : Nat × Int} (h : s.told = some w) : mrun c 0 s = some s := by unfold mrun; rw [h]
end Mine

end
noncomputable section
namespace Mine
noncomputable def Row.d : Row → D
  | .put i => .tup [.str 20, .int i]
  | .get i => .tup [.str 21, .int i]
  | .set i => .tup [.str 22, .int i]
  | .say => .tup [.str 23]
  | .ari a => .tup [.str a.w]
  | .go i => .tup [.str 28, .int i]
  | .nought i => .tup [.str 29, .int i]
  | .on i => .tup [.str 30, .int i]
  | .turn => .tup [.str 32]
  | .call i => .tup [.str 14, .int i]
  | .back => .tup [.str 15]
  | .raise => .tup [.str 31]
theorem rd_row {h : Hp} {n : Nat} (x : Row) : rd (n + 2) h x.v = some x.d := by cases x <;> rfl
theorem rd_rows {h : Hp} {a n : Nat} {rows : List Row} (ha : h[a]? = some (.list (rows.map Row.v))) : rd (n + 3) h (.ref a) = some (.list (rows.map Row.d)) := rd_list ha (mapO_map (fun x => rd_row x) rows)
noncomputable def strD (x : Int × Int × Int) : D := .tup [.int x.1, .int x.2.1, .int x.2.2]
theorem rd_strs {h : Hp} {a n : Nat} {rows : List (Int × Int × Int)} (ha : h[a]? = some (.list (rows.map strV))) : rd (n + 3) h (.ref a) = some (.list (rows.map strD)) := rd_list ha (mapO_map (fun _ => rfl) rows)
end Mine

end
noncomputable section
namespace Mine.L04
open Mine

theorem mstep_row {c : Co} {f : Fr} {r : List Fr} {said : List Int} {t : Int} {told : Option (Nat × Int)} {row : Row} (h : lAt c.code f.pl = some row) : mstep c ⟨f :: r, said, t, told⟩ = mrow c ⟨f :: r, said, t, told⟩ f r row := by
  show (match lAt c.code f.pl with | none => none | some row => mrow c _ f r row) = _
  rw [h]
theorem go1 {c : Co} {f : Fr} {r : List Fr} {said : List Int} {t : Int} {row : Row} {n : Nat} {s' e : Ma} (h : lAt c.code f.pl = some row) (hl : (f :: r).length ≤ 8) (hs : mrow c ⟨f :: r, said, t, none⟩ f r row = some s') (hr : mrun c n s' = some e) : mrun c (1 + n) ⟨f :: r, said, t, none⟩ = some e :=
  mrun_steps (n := 1) (msteps_one rfl hl ((mstep_row h).trans hs)) hr

structure Lay (c : Co) (m : Nat) (mo p : Nat → Int) (len : Int) : Prop where
  nb : c.nb = 1
  beg : ∀ k, k < m → lAt c.beg (k : Int) = some (p k)
  r0 : ∀ k, k + 1 < m → lAt c.code (p k) = some (.put (mo k))
  r1 : ∀ k, k + 1 < m → lAt c.code (p k + 1) = some (.get 0)
  r2 : ∀ k, k + 1 < m → lAt c.code (p k + 1 + 1) = some (.call ((k + 1 : Nat) : Int))
  r3 : ∀ k, k + 1 < m → lAt c.code (p k + 1 + 1 + 1) = some (.ari .add)
  r4 : ∀ k, k + 1 < m → lAt c.code (p k + 1 + 1 + 1 + 1) = some .back
  r5 : ∀ k, k + 1 < m → lAt c.code (p k + 5) = some .say
  r6 : ∀ k, k + 1 < m → lAt c.code (p k + 5 + 1) = some (.put (50 + (k : Int)))
  r7 : ∀ k, k + 1 < m → lAt c.code (p k + 5 + 1 + 1) = some .back
  o0 : lAt c.code len = some .say
  o1 : lAt c.code (len + 1) = some (.put 40)
  o2 : lAt c.code (len + 1 + 1) = some .back

section
variable {c : Co} {m : Nat} {mo p : Nat → Int} {len n : Int} (L : Lay c m mo p len)

noncomputable def callers (n : Int) (mo p : Nat → Int) : Nat → List Fr
  | 0 => []
  | k + 1 => ⟨p k + 1 + 1, [n], [mo k]⟩ :: callers n mo p k
noncomputable def sumTo (mo : Nat → Int) : Nat → Int
  | 0 => 0
  | k + 1 => sumTo mo k + mo k
theorem callers_len (n : Int) (mo p : Nat → Int) : ∀ k, (callers n mo p k).length = k
  | 0 => rfl
  | k + 1 => by simp [callers, callers_len n mo p k]

include L

theorem ret_chain : ∀ (k : Nat) (f : Fr) (v : Int) (said : List Int) (t : Int), k < m → k ≤ 7 → lAt c.code f.pl = some .back → f.pi.getLast? = some v → ∃ s, mrun c s ⟨f :: callers n mo p k, said, t, none⟩ = some ⟨[], said, t, some (34, v + sumTo mo k)⟩
  | 0, f, v, said, t, _, _, hb, hv => by
    refine ⟨_, go1 (n := 0) hb (by simp [callers]) (by simp only [mrow, hv, callers]; rfl) ?_⟩
    rw [sumTo, Int.add_zero]; exact mrun_end rfl
  | k + 1, f, v, said, t, hk, h7, hb, hv => by
    obtain ⟨s, hs⟩ := ret_chain k ⟨p k + 1 + 1 + 1 + 1, [n], [mo k + v]⟩ (mo k + v) said t (by first | assumption | exact Nat.lt_of_succ_lt (by assumption) | exact Nat.le_of_lt (by assumption) | lia | omega) (by first | assumption | exact Nat.lt_of_succ_lt (by assumption) | exact Nat.le_of_lt (by assumption) | lia | omega) (L.r4 k (by first | assumption | exact Nat.lt_of_succ_lt (by assumption) | exact Nat.le_of_lt (by assumption) | lia | omega)) rfl
    have e : mo k + v + sumTo mo k = v + sumTo mo (k + 1) := by simp only [sumTo]; (first | lia | omega)
    rw [e] at hs
    refine ⟨_, go1 hb (by simp [callers, callers_len]; (first | lia | omega)) (by simp only [mrow, hv, callers]; rw [if_pos (by simp [lim])]) (go1 (f := ⟨p k + 1 + 1 + 1, [n], [mo k] ++ [v]⟩) (L.r3 k (by first | assumption | exact Nat.lt_of_succ_lt (by assumption) | exact Nat.le_of_lt (by assumption) | lia | omega)) (by simp [callers_len]; (first | lia | omega)) ?_ hs)⟩
    simp only [mrow]
    rfl

theorem down : ∀ (k : Nat) (t : Int), k < m → k ≤ 7 → (k : Int) ≤ t → ∃ s, msteps c s ⟨[⟨p 0, [n], []⟩], [], t, none⟩ = some ⟨⟨p k, [n], []⟩ :: callers n mo p k, [], t - k, none⟩
  | 0, t, _, _, _ => ⟨0, by simp [msteps, callers]⟩
  | k + 1, t, hk, h7, ht => by
    obtain ⟨s, hs⟩ := down k t (by first | assumption | exact Nat.lt_of_succ_lt (by assumption) | exact Nat.le_of_lt (by assumption) | lia | omega) (by first | assumption | exact Nat.lt_of_succ_lt (by assumption) | exact Nat.le_of_lt (by assumption) | lia | omega) (by first | assumption | exact Nat.lt_of_succ_lt (by assumption) | exact Nat.le_of_lt (by assumption) | lia | omega)
    have a1 : mstep c ⟨⟨p k, [n], []⟩ :: callers n mo p k, [], t - k, none⟩ = some ⟨⟨p k + 1, [n], [mo k]⟩ :: callers n mo p k, [], t - k, none⟩ := (mstep_row (L.r0 k (by first | assumption | exact Nat.lt_of_succ_lt (by assumption) | exact Nat.le_of_lt (by assumption) | lia | omega))).trans (by simp only [mrow]; rw [if_pos (by simp [lim])]; rfl)
    have a2 : mstep c ⟨⟨p k + 1, [n], [mo k]⟩ :: callers n mo p k, [], t - k, none⟩ = some ⟨⟨p k + 1 + 1, [n], [mo k, n]⟩ :: callers n mo p k, [], t - k, none⟩ := (mstep_row (f := ⟨p k + 1, [n], [mo k]⟩) (L.r1 k (by first | assumption | exact Nat.lt_of_succ_lt (by assumption) | exact Nat.le_of_lt (by assumption) | lia | omega))).trans (by
      simp only [mrow, show lAt [n] 0 = some n from rfl]; rw [if_pos (by simp [lim])]; rfl)
    have a3 : mstep c ⟨⟨p k + 1 + 1, [n], [mo k, n]⟩ :: callers n mo p k, [], t - k, none⟩ = some ⟨⟨p (k + 1), [n], []⟩ :: callers n mo p (k + 1), [], t - k - 1, none⟩ := (mstep_row (f := ⟨p k + 1 + 1, [n], [mo k, n]⟩) (L.r2 k (by first | assumption | exact Nat.lt_of_succ_lt (by assumption) | exact Nat.le_of_lt (by assumption) | lia | omega))).trans (by
      simp only [mrow, show [mo k, n].getLast? = some n from rfl]
      rw [if_neg (by first | assumption | exact Nat.lt_of_succ_lt (by assumption) | exact Nat.le_of_lt (by assumption) | lia | omega), if_neg (by rw [callers_len]; (first | lia | omega)), L.beg (k + 1) hk, L.nb]
      rfl)
    have h8 : ∀ f : Fr, (f :: callers n mo p k).length ≤ 8 := fun f => by simp [callers_len]; (first | lia | omega)
    refine ⟨s + (1 + (1 + 1)), ?_⟩
    have := msteps_add hs (msteps_add (msteps_one rfl (h8 _) a1) (msteps_add (msteps_one rfl (h8 _) a2) (msteps_one rfl (h8 _) a3)))
    rw [this]
    congr 2
    omega

theorem at_call {k : Nat} {t : Int} (hk : k + 1 < m) (h7 : k ≤ 7) (ht : (k : Int) ≤ t) : ∃ s, msteps c s ⟨[⟨p 0, [n], []⟩], [], t, none⟩ = some ⟨⟨p k + 1 + 1, [n], [mo k, n]⟩ :: callers n mo p k, [], t - k, none⟩ := by
  obtain ⟨s, hs⟩ := down L k t (n := n) (by first | assumption | exact Nat.lt_of_succ_lt (by assumption) | exact Nat.le_of_lt (by assumption) | lia | omega) h7 ht
  have a1 : mstep c ⟨⟨p k, [n], []⟩ :: callers n mo p k, [], t - k, none⟩ = some ⟨⟨p k + 1, [n], [mo k]⟩ :: callers n mo p k, [], t - k, none⟩ := (mstep_row (L.r0 k (by first | assumption | exact Nat.lt_of_succ_lt (by assumption) | exact Nat.le_of_lt (by assumption) | lia | omega))).trans (by simp only [mrow]; rw [if_pos (by simp [lim])]; rfl)
  have a2 : mstep c ⟨⟨p k + 1, [n], [mo k]⟩ :: callers n mo p k, [], t - k, none⟩ = some ⟨⟨p k + 1 + 1, [n], [mo k, n]⟩ :: callers n mo p k, [], t - k, none⟩ := (mstep_row (f := ⟨p k + 1, [n], [mo k]⟩) (L.r1 k (by first | assumption | exact Nat.lt_of_succ_lt (by assumption) | exact Nat.le_of_lt (by assumption) | lia | omega))).trans (by
    simp only [mrow, show lAt [n] 0 = some n from rfl]; rw [if_pos (by simp [lim])]; rfl)
  have h8 : ∀ f : Fr, (f :: callers n mo p k).length ≤ 8 := fun f => by simp [callers_len]; (first | lia | omega)
  exact ⟨_, msteps_add hs (msteps_add (msteps_one rfl (h8 _) a1) (msteps_one rfl (h8 _) a2))⟩

theorem tired {k : Nat} (hk : k + 1 < m) (h7 : k ≤ 7) : ∃ s e, mrun c s ⟨[⟨p 0, [n], []⟩], [], (k : Int), none⟩ = some e ∧ e.said = [] ∧ e.told = some (33, 0) := by
  obtain ⟨s, hs⟩ := at_call L (n := n) (t := (k : Int)) hk h7 (Int.le_refl _)
  have h8 : ∀ f : Fr, (f :: callers n mo p k).length ≤ 8 := fun f => by simp [callers_len]; (first | lia | omega)
  have a3 : mrow c ⟨⟨p k + 1 + 1, [n], [mo k, n]⟩ :: callers n mo p k, [], (k : Int) - k, none⟩ ⟨p k + 1 + 1, [n], [mo k, n]⟩ (callers n mo p k) (.call ((k + 1 : Nat) : Int)) = some ⟨⟨p k + 1 + 1, [n], [mo k]⟩ :: callers n mo p k, [], (k : Int) - k, some (33, 0)⟩ := by
    simp only [mrow, show [mo k, n].getLast? = some n from rfl]
    rw [if_pos (by first | assumption | exact Nat.lt_of_succ_lt (by assumption) | exact Nat.le_of_lt (by assumption) | lia | omega)]
    rfl
  exact ⟨_, _, mrun_steps hs (go1 (n := 0) (L.r2 k (by first | assumption | exact Nat.lt_of_succ_lt (by assumption) | exact Nat.le_of_lt (by assumption) | lia | omega)) (h8 _) a3 (mrun_end rfl)), rfl, rfl⟩

theorem goal_run {k : Nat} {q a v t : Int} (hk : k < m) (h7 : k ≤ 7) (h0 : lAt c.code q = some .say) (h1 : lAt c.code (q + 1) = some (.put a)) (h2 : lAt c.code (q + 1 + 1) = some .back) : ∃ s, mrun c s ⟨⟨q, [n], [v]⟩ :: callers n mo p k, [], t, none⟩ = some ⟨[], [v], t, some (34, a + sumTo mo k)⟩ := by
  obtain ⟨s, hs⟩ := ret_chain L (n := n) k ⟨q + 1 + 1, [n], [a]⟩ a [v] t hk h7 h2 rfl
  have h8 : ∀ f : Fr, (f :: callers n mo p k).length ≤ 8 := fun f => by simp [callers_len]; (first | lia | omega)
  exact ⟨_, go1 h0 (h8 _) (by simp only [mrow]; rfl) (go1 (f := ⟨q + 1, [n], []⟩) h1 (h8 _) (by simp only [mrow]; rfl) hs)⟩

noncomputable def lastMark (mk : Nat → Bool) : Nat → Option Nat
  | 0 => none
  | k + 1 => if mk k = true then some k else lastMark mk k
omit L in
theorem lastMark_lt {mk : Nat → Bool} : ∀ {k j : Nat}, lastMark mk k = some j → j < k
  | k + 1, j, h => by
    unfold lastMark at h
    split at h
    · cases h; (first | lia | omega)
    · have := lastMark_lt h; (first | lia | omega)
omit L in
theorem fault_callers {mk : Nat → Bool} {v : Int} : ∀ (k : Nat), (∀ j, j < k → goalOf c.str (p j + 1 + 1) = if mk j = true then some (p j + 5) else none) → faultF c.str v (callers n mo p k) = match lastMark mk k with
    | some j => ⟨p j + 5, [n], [v]⟩ :: callers n mo p j
    | none => []
  | 0, _ => rfl
  | k + 1, h => by
    simp only [callers, faultF, h k (by first | assumption | exact Nat.lt_of_succ_lt (by assumption) | exact Nat.le_of_lt (by assumption) | lia | omega), lastMark]
    by_cases hm : mk k = true
    · rw [if_pos hm, if_pos hm]
    · rw [if_neg hm, if_neg hm]
      exact fault_callers k fun j hj => h j (by first | assumption | exact Nat.lt_of_succ_lt (by assumption) | exact Nat.le_of_lt (by assumption) | lia | omega)

omit L in
theorem fault_some {v : Int} {fs : List Fr} {f : Fr} {r : List Fr} {said : List Int} {t : Int} (h : faultF c.str v fs = f :: r) : Ma.fault c v ⟨fs, said, t, none⟩ = ⟨f :: r, said, t, none⟩ := by
  unfold Ma.fault; dsimp only; rw [h]
omit L in
theorem fault_none {v : Int} {fs : List Fr} {said : List Int} {t : Int} (h : faultF c.str v fs = []) : Ma.fault c v ⟨fs, said, t, none⟩ = ⟨[], said, t, some (13, v)⟩ := by
  unfold Ma.fault; dsimp only; rw [h]

omit L in
theorem puts_run {q t : Int} {r : List Fr} {said : List Int} (hr : r.length ≤ 7) : ∀ (j : Nat), j ≤ 2 → (∀ i, i < j → lAt c.code (q + (i : Nat)) = some (.put 9)) → msteps c j ⟨⟨q, [n], []⟩ :: r, said, t, none⟩ = some ⟨⟨q + (j : Nat), [n], List.replicate j 9⟩ :: r, said, t, none⟩
  | 0, _, _ => by simp [msteps]
  | j + 1, hj, h => by
    have ih := puts_run (t := t) (said := said) hr j (by first | assumption | exact Nat.lt_of_succ_lt (by assumption) | exact Nat.le_of_lt (by assumption) | lia | omega) fun i hi => h i (by first | assumption | exact Nat.lt_of_succ_lt (by assumption) | exact Nat.le_of_lt (by assumption) | lia | omega)
    refine msteps_add ih (msteps_one rfl (by simp; (first | lia | omega)) ((mstep_row (f := ⟨q + (j : Nat), [n], List.replicate j 9⟩) (h j (by first | assumption | exact Nat.lt_of_succ_lt (by assumption) | exact Nat.le_of_lt (by assumption) | lia | omega))).trans ?_))
    simp only [mrow]
    rw [if_pos (by simp [lim]; (first | lia | omega)), List.replicate_succ']
    congr 4
    omega

noncomputable def dueOf (m : Nat) (mk : Nat → Bool) (raises : Bool) (n : Int) (wide : Nat) (mo : Nat → Int) : List Int × Nat × Int :=
  if m ≤ 8 ∧ raises = false then ([], 34, n + sumTo mo (m - 1)) else
    if 0 < wide then ([if 8 < m then 102 else n], 34, (if 8 < m ∧ mk 7 = true ∧ wide = 2 then 57 else 40) + sumTo mo (min m 8 - 1)) else
    match lastMark mk (min (m - 1) 8) with
    | some k => ([if 8 < m then 102 else n], 34, 50 + (k : Int) + sumTo mo k)
    | none => ([], 13, if 8 < m then 102 else n)
noncomputable def Ends (c : Co) (s : Ma) (d : List Int × Nat × Int) : Prop := ∃ k e, mrun c k s = some e ∧ e.said = d.1 ∧ e.told = some (d.2.1, d.2.2)
omit L in
theorem Ends.after {d : List Int × Nat × Int} {s s' : Ma} {k : Nat} (h : msteps c k s = some s') (e : Ends c s' d) : Ends c s d := by
  obtain ⟨j, x, e1, e2, e3⟩ := e
  exact ⟨_, x, mrun_steps h e1, e2, e3⟩
omit L in
theorem Ends.one {d : List Int × Nat × Int} {f : Fr} {r : List Fr} {said : List Int} {t : Int} {s' : Ma} {row : Row} (h : lAt c.code f.pl = some row) (hl : (f :: r).length ≤ 8) (hs : mrow c ⟨f :: r, said, t, none⟩ f r row = some s') (e : Ends c s' d) : Ends c ⟨f :: r, said, t, none⟩ d :=
  Ends.after (msteps_one rfl hl ((mstep_row h).trans hs)) e

theorem ends_callers {mk : Nat → Bool} {v t : Int} {k : Nat} (hk : k ≤ 8) (hm : k < m) (hg : ∀ j, j < k → goalOf c.str (p j + 1 + 1) = if mk j = true then some (p j + 5) else none) :
    Ends c (Ma.fault c v ⟨callers n mo p k, [], t, none⟩) (match lastMark mk k with | some j => ([v], 34, 50 + (j : Int) + sumTo mo j) | none => ([], 13, v)) := by
  have hf := fault_callers (n := n) (mo := mo) (v := v) k hg
  cases hl : lastMark mk k with
  | none =>
    rw [hl] at hf
    rw [fault_none hf]
    exact ⟨0, _, mrun_end rfl, rfl, rfl⟩
  | some j =>
    rw [hl] at hf
    have hj := lastMark_lt hl
    rw [fault_some hf]
    obtain ⟨s, hs⟩ := goal_run L (n := n) (k := j) (q := p j + 5) (v := v) (t := t) (by first | assumption | exact Nat.lt_of_succ_lt (by assumption) | exact Nat.le_of_lt (by assumption) | lia | omega) (by first | assumption | exact Nat.lt_of_succ_lt (by assumption) | exact Nat.le_of_lt (by assumption) | lia | omega) (L.r5 j (by first | assumption | exact Nat.lt_of_succ_lt (by assumption) | exact Nat.le_of_lt (by assumption) | lia | omega)) (L.r6 j (by first | assumption | exact Nat.lt_of_succ_lt (by assumption) | exact Nat.le_of_lt (by assumption) | lia | omega)) (L.r7 j (by first | assumption | exact Nat.lt_of_succ_lt (by assumption) | exact Nat.le_of_lt (by assumption) | lia | omega))
    exact ⟨s, _, hs, rfl, rfl⟩

theorem outcome {mk : Nat → Bool} {raises : Bool} {wide cnt : Nat} {t : Int} (hm : 0 < m) (ht : 0 ≤ t) (hc : cnt ≤ 2) (hw : wide ≤ 2) (l0 : ∀ i, i < cnt → lAt c.code (p (m - 1) + (i : Nat)) = some (.put 9)) (l1 : lAt c.code (p (m - 1) + (cnt : Nat)) = some (.get 0)) (l2 : lAt c.code (p (m - 1) + (cnt : Nat) + 1) = some (if raises = true then .raise else .back))
    (gk : ∀ j, j + 1 < m → goalOf c.str (p j + 1 + 1) = if wide = 1 then some len else if mk j = true then some (p j + 5) else if wide = 2 then some len else none)
    (gl : goalOf c.str (p (m - 1) + (cnt : Nat) + 1) = if wide = 0 then none else some len) :
    Ends c (startMa (p 0) 1 n t) (if t < (min m 9 : Nat) - 1 then ([], 33, 0) else dueOf m mk raises n wide mo) := by
  change Ends c ⟨[⟨p 0, [n], []⟩], [], t, none⟩ _
  by_cases c1 : t < (min m 9 : Nat) - 1
  · rw [if_pos c1]
    obtain ⟨s, e, e1, e2, e3⟩ := tired L (n := n) (k := t.toNat) (by first | assumption | exact Nat.lt_of_succ_lt (by assumption) | exact Nat.le_of_lt (by assumption) | lia | omega) (by first | assumption | exact Nat.lt_of_succ_lt (by assumption) | exact Nat.le_of_lt (by assumption) | lia | omega)
    rw [Int.toNat_of_nonneg ht] at e1
    exact ⟨s, e, e1, e2, e3⟩
  · rw [if_neg c1]
    by_cases c8 : 8 < m
    · obtain ⟨s, hs⟩ := at_call L (n := n) (k := 7) (t := t) (by first | assumption | exact Nat.lt_of_succ_lt (by assumption) | exact Nat.le_of_lt (by assumption) | lia | omega) (by first | assumption | exact Nat.lt_of_succ_lt (by assumption) | exact Nat.le_of_lt (by assumption) | lia | omega) (by first | assumption | exact Nat.lt_of_succ_lt (by assumption) | exact Nat.le_of_lt (by assumption) | lia | omega)
      refine Ends.after hs ?_
      refine Ends.one (L.r2 7 (by first | assumption | exact Nat.lt_of_succ_lt (by assumption) | exact Nat.le_of_lt (by assumption) | lia | omega)) (by simp [callers_len]) (s' := Ma.fault c 102 ⟨callers n mo p 8, [], t - (7 : Nat) - 1, none⟩) ?_ ?_
      · simp only [mrow, show [mo 7, n].getLast? = some n from rfl]
        rw [if_neg (by first | assumption | exact Nat.lt_of_succ_lt (by assumption) | exact Nat.le_of_lt (by assumption) | lia | omega), if_pos (by rw [callers_len])]
        rfl
      unfold dueOf
      rw [if_neg (by first | assumption | exact Nat.lt_of_succ_lt (by assumption) | exact Nat.le_of_lt (by assumption) | lia | omega), if_pos c8]
      by_cases w0 : 0 < wide
      · rw [if_pos w0]
        have g7 := gk 7 (by first | assumption | exact Nat.lt_of_succ_lt (by assumption) | exact Nat.le_of_lt (by assumption) | lia | omega)
        have e7 : min m 8 - 1 = 7 := by first | assumption | exact Nat.lt_of_succ_lt (by assumption) | exact Nat.le_of_lt (by assumption) | lia | omega
        rw [e7]
        by_cases hin : mk 7 = true ∧ wide = 2
        · rw [if_pos ⟨c8, hin⟩]
          rw [if_neg (by first | assumption | exact Nat.lt_of_succ_lt (by assumption) | exact Nat.le_of_lt (by assumption) | lia | omega), if_pos hin.1] at g7
          have hf : faultF c.str 102 (callers n mo p 8) = ⟨p 7 + 5, [n], [102]⟩ :: callers n mo p 7 := by simp only [callers, faultF, g7]
          rw [fault_some hf]
          obtain ⟨s, hs⟩ := goal_run L (n := n) (k := 7) (q := p 7 + 5) (v := 102) (t := t - (7 : Nat) - 1) (by first | assumption | exact Nat.lt_of_succ_lt (by assumption) | exact Nat.le_of_lt (by assumption) | lia | omega) (by first | assumption | exact Nat.lt_of_succ_lt (by assumption) | exact Nat.le_of_lt (by assumption) | lia | omega) (L.r5 7 (by first | assumption | exact Nat.lt_of_succ_lt (by assumption) | exact Nat.le_of_lt (by assumption) | lia | omega)) (L.r6 7 (by first | assumption | exact Nat.lt_of_succ_lt (by assumption) | exact Nat.le_of_lt (by assumption) | lia | omega)) (L.r7 7 (by first | assumption | exact Nat.lt_of_succ_lt (by assumption) | exact Nat.le_of_lt (by assumption) | lia | omega))
          exact ⟨s, _, hs, rfl, rfl⟩
        · rw [if_neg (fun z => hin z.2)]
          have g7' : goalOf c.str (p 7 + 1 + 1) = some len := by
            rw [g7]
            by_cases w1 : wide = 1
            · rw [if_pos w1]
            · have w2 : wide = 2 := by first | assumption | exact Nat.lt_of_succ_lt (by assumption) | exact Nat.le_of_lt (by assumption) | lia | omega
              rw [if_neg w1, if_neg (fun z => hin ⟨z, w2⟩), if_pos w2]
          have hf : faultF c.str 102 (callers n mo p 8) = ⟨len, [n], [102]⟩ :: callers n mo p 7 := by simp only [callers, faultF, g7']
          rw [fault_some hf]
          obtain ⟨s, hs⟩ := goal_run L (n := n) (k := 7) (q := len) (v := 102) (t := t - (7 : Nat) - 1) (by first | assumption | exact Nat.lt_of_succ_lt (by assumption) | exact Nat.le_of_lt (by assumption) | lia | omega) (by first | assumption | exact Nat.lt_of_succ_lt (by assumption) | exact Nat.le_of_lt (by assumption) | lia | omega) L.o0 L.o1 L.o2
          exact ⟨s, _, hs, rfl, rfl⟩
      · rw [if_neg w0]
        have w00 : wide = 0 := by first | assumption | exact Nat.lt_of_succ_lt (by assumption) | exact Nat.le_of_lt (by assumption) | lia | omega
        rw [show min (m - 1) 8 = 8 by first | assumption | exact Nat.lt_of_succ_lt (by assumption) | exact Nat.le_of_lt (by assumption) | lia | omega]
        refine ends_callers L (by first | assumption | exact Nat.lt_of_succ_lt (by assumption) | exact Nat.le_of_lt (by assumption) | lia | omega) (by first | assumption | exact Nat.lt_of_succ_lt (by assumption) | exact Nat.le_of_lt (by assumption) | lia | omega) fun j hj => ?_
        rw [gk j (by first | assumption | exact Nat.lt_of_succ_lt (by assumption) | exact Nat.le_of_lt (by assumption) | lia | omega), if_neg (by first | assumption | exact Nat.lt_of_succ_lt (by assumption) | exact Nat.le_of_lt (by assumption) | lia | omega)]
        by_cases q : mk j = true
        · rw [if_pos q, if_pos q]
        · rw [if_neg q, if_neg q, if_neg (by first | assumption | exact Nat.lt_of_succ_lt (by assumption) | exact Nat.le_of_lt (by assumption) | lia | omega)]
    · obtain ⟨s, hs⟩ := down L (n := n) (m - 1) t (by first | assumption | exact Nat.lt_of_succ_lt (by assumption) | exact Nat.le_of_lt (by assumption) | lia | omega) (by first | assumption | exact Nat.lt_of_succ_lt (by assumption) | exact Nat.le_of_lt (by assumption) | lia | omega) (by first | assumption | exact Nat.lt_of_succ_lt (by assumption) | exact Nat.le_of_lt (by assumption) | lia | omega)
      refine Ends.after hs ?_
      have hr : (callers n mo p (m - 1)).length ≤ 7 := by rw [callers_len]; (first | lia | omega)
      refine Ends.after (puts_run hr cnt hc l0) ?_
      have h8 : ∀ f : Fr, (f :: callers n mo p (m - 1)).length ≤ 8 := fun f => by simp [callers_len]; (first | lia | omega)
      refine Ends.one l1 (h8 _) (s' := ⟨⟨p (m - 1) + (cnt : Nat) + 1, [n], List.replicate cnt 9 ++ [n]⟩ :: callers n mo p (m - 1), [], t - ((m - 1 : Nat) : Int), none⟩) ?_ ?_
      · simp only [mrow, show lAt [n] 0 = some n from rfl]
        rw [if_pos (by simp [lim]; (first | lia | omega))]
      unfold dueOf
      cases raises with
      | false =>
        rw [if_pos ⟨by first | assumption | exact Nat.lt_of_succ_lt (by assumption) | exact Nat.le_of_lt (by assumption) | lia | omega, rfl⟩]
        obtain ⟨s, hs⟩ := ret_chain L (n := n) (m - 1) ⟨p (m - 1) + (cnt : Nat) + 1, [n], List.replicate cnt 9 ++ [n]⟩ n [] (t - ((m - 1 : Nat) : Int)) (by first | assumption | exact Nat.lt_of_succ_lt (by assumption) | exact Nat.le_of_lt (by assumption) | lia | omega) (by first | assumption | exact Nat.lt_of_succ_lt (by assumption) | exact Nat.le_of_lt (by assumption) | lia | omega) l2 (by simp)
        exact ⟨s, _, hs, rfl, rfl⟩
      | true =>
        rw [if_neg (by simp), if_neg c8]
        refine Ends.one l2 (h8 _) (s' := Ma.fault c n ⟨⟨p (m - 1) + (cnt : Nat) + 1, [n], List.replicate cnt 9⟩ :: callers n mo p (m - 1), [], t - ((m - 1 : Nat) : Int), none⟩) ?_ ?_
        · simp only [if_true, mrow, List.getLast?_concat, List.dropLast_concat]
        by_cases w0 : 0 < wide
        · rw [if_pos w0, if_neg (fun z => c8 z.1), show min m 8 - 1 = m - 1 by first | assumption | exact Nat.lt_of_succ_lt (by assumption) | exact Nat.le_of_lt (by assumption) | lia | omega]
          rw [if_neg (by first | assumption | exact Nat.lt_of_succ_lt (by assumption) | exact Nat.le_of_lt (by assumption) | lia | omega)] at gl
          have hf : faultF c.str n (⟨p (m - 1) + (cnt : Nat) + 1, [n], List.replicate cnt 9⟩ :: callers n mo p (m - 1)) = ⟨len, [n], [n]⟩ :: callers n mo p (m - 1) := by simp only [faultF, gl]
          rw [fault_some hf]
          obtain ⟨s, hs⟩ := goal_run L (n := n) (k := m - 1) (q := len) (v := n) (t := t - ((m - 1 : Nat) : Int)) (by first | assumption | exact Nat.lt_of_succ_lt (by assumption) | exact Nat.le_of_lt (by assumption) | lia | omega) (by first | assumption | exact Nat.lt_of_succ_lt (by assumption) | exact Nat.le_of_lt (by assumption) | lia | omega) L.o0 L.o1 L.o2
          exact ⟨s, _, hs, rfl, rfl⟩
        · rw [if_neg w0, show min (m - 1) 8 = m - 1 by first | assumption | exact Nat.lt_of_succ_lt (by assumption) | exact Nat.le_of_lt (by assumption) | lia | omega]
          rw [if_pos (by first | assumption | exact Nat.lt_of_succ_lt (by assumption) | exact Nat.le_of_lt (by assumption) | lia | omega)] at gl
          have hf : faultF c.str n (⟨p (m - 1) + (cnt : Nat) + 1, [n], List.replicate cnt 9⟩ :: callers n mo p (m - 1)) = faultF c.str n (callers n mo p (m - 1)) := by simp only [faultF, gl]
          have : Ma.fault c n ⟨⟨p (m - 1) + (cnt : Nat) + 1, [n], List.replicate cnt 9⟩ :: callers n mo p (m - 1), [], t - ((m - 1 : Nat) : Int), none⟩ = Ma.fault c n ⟨callers n mo p (m - 1), [], t - ((m - 1 : Nat) : Int), none⟩ := by
            unfold Ma.fault; dsimp only; rw [hf]
          rw [this]
          refine ends_callers L (by first | assumption | exact Nat.lt_of_succ_lt (by assumption) | exact Nat.le_of_lt (by assumption) | lia | omega) (by first | assumption | exact Nat.lt_of_succ_lt (by assumption) | exact Nat.le_of_lt (by assumption) | lia | omega) fun j hj => ?_
          rw [gk j (by first | assumption | exact Nat.lt_of_succ_lt (by assumption) | exact Nat.le_of_lt (by assumption) | lia | omega), if_neg (by first | assumption | exact Nat.lt_of_succ_lt (by assumption) | exact Nat.le_of_lt (by assumption) | lia | omega)]
          by_cases q : mk j = true
          · rw [if_pos q, if_pos q]
          · rw [if_neg q, if_neg q, if_neg (by first | assumption | exact Nat.lt_of_succ_lt (by assumption) | exact Nat.le_of_lt (by assumption) | lia | omega)]
end
end Mine.L04

end
noncomputable section
namespace Mine.L04
open Mine

theorem goalOf_append (ys : List (Int × Int × Int)) (x : Int) : ∀ xs : List (Int × Int × Int), goalOf (xs ++ ys) x = match goalOf xs x with | some g => some g | none => goalOf ys x
  | [] => rfl
  | (a, b, c) :: xs => by
    simp only [List.cons_append, goalOf]
    by_cases h : a ≤ x ∧ x < b
    · rw [if_pos h, if_pos h]
    · rw [if_neg h, if_neg h]; exact goalOf_append ys x xs

structure Par where
  m : Nat
  mar : Nat → Bool
  mo : Nat → Int
  raises : Bool
  cnt : Nat
  s : Nat

noncomputable def Par.blk (P : Par) (k : Nat) : List Row := if k + 1 = P.m then List.replicate P.cnt (.put 9) ++ [.get 0, if P.raises = true then .raise else .back] else
  [.put (P.mo k), .get 0, .call ((k + 1 : Nat) : Int), .ari .add, .back, .say, .put (50 + (k : Int)), .back]

noncomputable def At (code : List Row) (q : Nat) (b : List Row) : Prop := ∃ pre post, code = pre ++ b ++ post ∧ pre.length = q
theorem At.app {code : List Row} {q : Nat} {b : List Row} (h : At code q b) (x : List Row) : At (code ++ x) q b := by
  obtain ⟨pre, post, e, l⟩ := h
  exact ⟨pre, post ++ x, by rw [e, List.append_assoc], l⟩
theorem At.le {code : List Row} {q : Nat} {b : List Row} (h : At code q b) : q + b.length ≤ code.length := by
  obtain ⟨pre, post, e, l⟩ := h
  rw [e, List.length_append, List.length_append]; (first | lia | omega)
theorem At.get {code : List Row} {q : Nat} {b : List Row} (h : At code q b) {i : Nat} {r : Row} (hr : b[i]? = some r) : lAt code ((q : Int) + (i : Nat)) = some r := by
  obtain ⟨pre, post, rfl, rfl⟩ := h
  have hi : i < b.length := by obtain ⟨z, _⟩ := List.getElem?_eq_some_iff.mp hr; exact z
  unfold lAt
  rw [if_pos (by first | assumption | exact Nat.lt_of_succ_lt (by assumption) | exact Nat.le_of_lt (by assumption) | lia | omega), show ((pre.length : Int) + (i : Nat)).toNat = pre.length + i by first | assumption | exact Nat.lt_of_succ_lt (by assumption) | exact Nat.le_of_lt (by assumption) | lia | omega, List.append_assoc, List.getElem?_append_right (by first | assumption | exact Nat.lt_of_succ_lt (by assumption) | exact Nat.le_of_lt (by assumption) | lia | omega), Nat.add_sub_cancel_left, List.getElem?_append_left hi]
  exact hr

structure Inv (P : Par) (j : Nat) (code : List Row) (stx : List (Int × Int × Int)) (starts : List Int) : Prop where
  len : starts.length = P.m
  far : ∀ x : Int, (code.length : Int) ≤ x → goalOf stx x = none
  at_ : ∀ i, i < j → ∃ q : Nat, starts[(i + P.s) % P.m]? = some (q : Int) ∧ At code q (P.blk ((i + P.s) % P.m)) ∧
    ((i + P.s) % P.m + 1 < P.m → ∀ x : Int, (q : Int) ≤ x → x < (q : Int) + 3 → goalOf stx x = if P.mar ((i + P.s) % P.m) = true then some ((q : Int) + 5) else none) ∧
    ((i + P.s) % P.m + 1 = P.m → ∀ x : Int, (q : Int) ≤ x → x < (q : Int) + P.cnt + 2 → goalOf stx x = none)
  size : code.length ≤ 4 + 10 * j

theorem rot_ne {m s i j : Nat} (hij : i < j) (hj : j < m) : (i + s) % m ≠ (j + s) % m := fun e => by
  have h := Nat.sub_mod_eq_zero_of_mod_eq e.symm
  rw [show j + s - (i + s) = j - i by first | assumption | exact Nat.lt_of_succ_lt (by assumption) | exact Nat.le_of_lt (by assumption) | lia | omega, Nat.mod_eq_of_lt (by first | assumption | exact Nat.lt_of_succ_lt (by assumption) | exact Nat.le_of_lt (by assumption) | lia | omega)] at h
  omega
theorem rot_all {m s k : Nat} (hk : k < m) : ∃ i, i < m ∧ (i + s) % m = k := by
  have h1 : s % m < m := Nat.mod_lt _ (by first | assumption | exact Nat.lt_of_succ_lt (by assumption) | exact Nat.le_of_lt (by assumption) | lia | omega)
  refine ⟨(k + m - s % m) % m, Nat.mod_lt _ (by first | assumption | exact Nat.lt_of_succ_lt (by assumption) | exact Nat.le_of_lt (by assumption) | lia | omega), ?_⟩
  rw [Nat.mod_add_mod]
  have h2 : k + m - s % m + s = k + m * (1 + s / m) := by
    have := Nat.div_add_mod s m
    rw [Nat.mul_add, Nat.mul_one]
    omega
  rw [h2, Nat.add_mul_mod_self_left, Nat.mod_eq_of_lt hk]

theorem blk_len (P : Par) (k : Nat) (hc : P.cnt ≤ 2) : (P.blk k).length ≤ 8 ∧ (k + 1 < P.m → (P.blk k).length = 8) ∧ (k + 1 = P.m → (P.blk k).length = P.cnt + 2) := by
  unfold Par.blk
  by_cases h : k + 1 = P.m
  · rw [if_pos h]; simp; (first | lia | omega)
  · rw [if_neg h]; simp; (first | lia | omega)

theorem inv_nil {P : Par} {code : List Row} {starts : List Int} (hl : starts.length = P.m) (hc : code.length ≤ 4) : Inv P 0 code [] starts := ⟨hl, fun _ _ => rfl, fun i hi => by first | assumption | exact Nat.lt_of_succ_lt (by assumption) | exact Nat.le_of_lt (by assumption) | lia | omega, by first | assumption | exact Nat.lt_of_succ_lt (by assumption) | exact Nat.le_of_lt (by assumption) | lia | omega⟩

theorem inv_step {P : Par} {j : Nat} {code : List Row} {stx : List (Int × Int × Int)} {starts : List Int} (hc : P.cnt ≤ 2) (hj : j < P.m) (I : Inv P j code stx starts) :
    Inv P (j + 1) (code ++ P.blk ((j + P.s) % P.m)) (if (j + P.s) % P.m + 1 < P.m ∧ P.mar ((j + P.s) % P.m) = true then stx ++ [((code.length : Int), (code.length : Int) + 3, (code.length : Int) + 5)] else stx) (starts.set ((j + P.s) % P.m) (code.length : Int)) := by
  have hk : (j + P.s) % P.m < P.m := Nat.mod_lt _ (by first | assumption | exact Nat.lt_of_succ_lt (by assumption) | exact Nat.le_of_lt (by assumption) | lia | omega)
  obtain ⟨b1, b2, b3⟩ := blk_len P ((j + P.s) % P.m) hc
  have low : ∀ x : Int, x < code.length → goalOf (if (j + P.s) % P.m + 1 < P.m ∧ P.mar ((j + P.s) % P.m) = true then stx ++ [((code.length : Int), (code.length : Int) + 3, (code.length : Int) + 5)] else stx) x = goalOf stx x := fun x hx => by
    split
    · rw [goalOf_append]
      simp only [goalOf]
      rw [if_neg (by first | assumption | exact Nat.lt_of_succ_lt (by assumption) | exact Nat.le_of_lt (by assumption) | lia | omega)]
      cases goalOf stx x <;> rfl
    · rfl
  refine ⟨by rw [List.length_set]; exact I.len, fun x hx => ?_, fun i hi => ?_, ?_⟩
  · rw [List.length_append] at hx
    have h0 := I.far x (by first | assumption | exact Nat.lt_of_succ_lt (by assumption) | exact Nat.le_of_lt (by assumption) | lia | omega)
    split
    · rename_i hq
      rw [goalOf_append, h0]
      simp only [goalOf]
      rw [if_neg (by have := b2 hq.1; (first | lia | omega))]
    · exact h0
  · by_cases e : i = j
    · subst e
      refine ⟨code.length, List.getElem?_set_self (by rw [I.len]; exact hk), ⟨code, [], by simp, rfl⟩, fun hlt x h1 h2 => ?_, fun heq x h1 h2 => ?_⟩
      · have h0 := I.far x h1
        by_cases hm : P.mar ((i + P.s) % P.m) = true
        · rw [if_pos ⟨hlt, hm⟩, if_pos hm, goalOf_append, h0]
          simp only [goalOf]
          rw [if_pos ⟨h1, h2⟩]
        · rw [if_neg (fun z => hm z.2), if_neg hm]; exact h0
      · rw [if_neg (by first | assumption | exact Nat.lt_of_succ_lt (by assumption) | exact Nat.le_of_lt (by assumption) | lia | omega)]; exact I.far x h1
    · obtain ⟨q, q1, q2, q3, q4⟩ := I.at_ i (by first | assumption | exact Nat.lt_of_succ_lt (by assumption) | exact Nat.le_of_lt (by assumption) | lia | omega)
      have hne := rot_ne (s := P.s) (show i < j by first | assumption | exact Nat.lt_of_succ_lt (by assumption) | exact Nat.le_of_lt (by assumption) | lia | omega) hj
      obtain ⟨c1, c2, c3⟩ := blk_len P ((i + P.s) % P.m) hc
      have hle := q2.le
      refine ⟨q, by rw [List.getElem?_set_ne (Ne.symm hne)]; exact q1, q2.app _, fun hlt x h1 h2 => ?_, fun heq x h1 h2 => ?_⟩
      · rw [low x (by have := c2 hlt; (first | lia | omega))]; exact q3 hlt x h1 h2
      · rw [low x (by have := c3 heq; (first | lia | omega))]; exact q4 heq x h1 h2
  · rw [List.length_append]; have := I.size; (first | lia | omega)

theorem lay_of {P : Par} {code : List Row} {stx : List (Int × Int × Int)} {starts : List Int} {wide : Nat} {n t : Int} (hm : 0 < P.m) (ht : 0 ≤ t) (hc : P.cnt ≤ 2) (hw : wide ≤ 2) (I : Inv P P.m code stx starts) :
    ∃ p0, lAt starts 0 = some p0 ∧ Ends ⟨code ++ [.say, .put 40, .back], if wide = 1 then (0, (code.length : Int), (code.length : Int)) :: stx else if wide = 2 then stx ++ [(0, (code.length : Int), (code.length : Int))] else stx, starts, 1⟩ (startMa p0 1 n t) (if t < (min P.m 9 : Nat) - 1 then ([], 33, 0) else dueOf P.m P.mar P.raises n wide P.mo) := by
  have all : ∀ k, k < P.m → ∃ q : Nat, starts[k]? = some (q : Int) ∧ At code q (P.blk k) ∧ (k + 1 < P.m → ∀ x : Int, (q : Int) ≤ x → x < (q : Int) + 3 → goalOf stx x = if P.mar k = true then some ((q : Int) + 5) else none) ∧ (k + 1 = P.m → ∀ x : Int, (q : Int) ≤ x → x < (q : Int) + P.cnt + 2 → goalOf stx x = none) := fun k hk => by
    obtain ⟨i, h1, h2⟩ := rot_all (s := P.s) hk
    have := I.at_ i h1
    rw [h2] at this
    exact this
  have pk : ∀ k, k < P.m → starts[k]? = some (starts[k]?.getD 0) := fun k hk => by obtain ⟨q, h, _⟩ := all k hk; rw [h]; rfl
  have blk1 : ∀ k, k + 1 < P.m → P.blk k = [.put (P.mo k), .get 0, .call ((k + 1 : Nat) : Int), .ari .add, .back, .say, .put (50 + (k : Int)), .back] := fun k hk => by unfold Par.blk; rw [if_neg (by first | assumption | exact Nat.lt_of_succ_lt (by assumption) | exact Nat.le_of_lt (by assumption) | lia | omega)]
  have row : ∀ k, k + 1 < P.m → ∀ i r, [Row.put (P.mo k), .get 0, .call ((k + 1 : Nat) : Int), .ari .add, .back, .say, .put (50 + (k : Int)), .back][i]? = some r → lAt (code ++ [.say, .put 40, .back]) (starts[k]?.getD 0 + (i : Nat)) = some r := fun k hk i r hr => by
    obtain ⟨q, h1, h2, _⟩ := all k (by first | assumption | exact Nat.lt_of_succ_lt (by assumption) | exact Nat.le_of_lt (by assumption) | lia | omega)
    rw [h1]
    rw [blk1 k hk] at h2
    exact (h2.app _).get hr
  have tail : At (code ++ [.say, .put 40, .back]) code.length [.say, .put 40, .back] := ⟨code, [], by simp, rfl⟩
  have L : Lay ⟨code ++ [.say, .put 40, .back], if wide = 1 then (0, (code.length : Int), (code.length : Int)) :: stx else if wide = 2 then stx ++ [(0, (code.length : Int), (code.length : Int))] else stx, starts, 1⟩ P.m P.mo (fun k => starts[k]?.getD 0) (code.length : Int) := by
    refine ⟨rfl, fun k hk => ?_, fun k hk => ?_, fun k hk => row k hk 1 _ rfl, fun k hk => ?_, fun k hk => ?_, fun k hk => ?_, fun k hk => row k hk 5 _ rfl, fun k hk => ?_, fun k hk => ?_, ?_, tail.get (i := 1) rfl, ?_⟩
    · unfold lAt; rw [if_pos (by first | assumption | exact Nat.lt_of_succ_lt (by assumption) | exact Nat.le_of_lt (by assumption) | lia | omega)]; exact pk k hk
    · have := row k hk 0 _ rfl; rw [show ((0 : Nat) : Int) = 0 from rfl, Int.add_zero] at this; exact this
    · have := row k hk 2 _ rfl; rw [show (starts[k]?.getD 0 : Int) + 1 + 1 = starts[k]?.getD 0 + ((2 : Nat) : Int) by first | assumption | exact Nat.lt_of_succ_lt (by assumption) | exact Nat.le_of_lt (by assumption) | lia | omega]; exact this
    · have := row k hk 3 _ rfl; rw [show (starts[k]?.getD 0 : Int) + 1 + 1 + 1 = starts[k]?.getD 0 + ((3 : Nat) : Int) by first | assumption | exact Nat.lt_of_succ_lt (by assumption) | exact Nat.le_of_lt (by assumption) | lia | omega]; exact this
    · have := row k hk 4 _ rfl; rw [show (starts[k]?.getD 0 : Int) + 1 + 1 + 1 + 1 = starts[k]?.getD 0 + ((4 : Nat) : Int) by first | assumption | exact Nat.lt_of_succ_lt (by assumption) | exact Nat.le_of_lt (by assumption) | lia | omega]; exact this
    · have := row k hk 6 _ rfl; rw [show (starts[k]?.getD 0 : Int) + 5 + 1 = starts[k]?.getD 0 + ((6 : Nat) : Int) by first | assumption | exact Nat.lt_of_succ_lt (by assumption) | exact Nat.le_of_lt (by assumption) | lia | omega]; exact this
    · have := row k hk 7 _ rfl; rw [show (starts[k]?.getD 0 : Int) + 5 + 1 + 1 = starts[k]?.getD 0 + ((7 : Nat) : Int) by first | assumption | exact Nat.lt_of_succ_lt (by assumption) | exact Nat.le_of_lt (by assumption) | lia | omega]; exact this
    · have := tail.get (i := 0) rfl; rw [show ((0 : Nat) : Int) = 0 from rfl, Int.add_zero] at this; exact this
    · have := tail.get (i := 2) rfl; rw [show ((code.length : Nat) : Int) + 1 + 1 = (code.length : Int) + ((2 : Nat) : Int) by first | assumption | exact Nat.lt_of_succ_lt (by assumption) | exact Nat.le_of_lt (by assumption) | lia | omega]; exact this
  obtain ⟨q, h1, h2, _, h4⟩ := all (P.m - 1) (by first | assumption | exact Nat.lt_of_succ_lt (by assumption) | exact Nat.le_of_lt (by assumption) | lia | omega)
  have eq : P.m - 1 + 1 = P.m := by first | assumption | exact Nat.lt_of_succ_lt (by assumption) | exact Nat.le_of_lt (by assumption) | lia | omega
  have hb : P.blk (P.m - 1) = List.replicate P.cnt (.put 9) ++ [.get 0, if P.raises = true then .raise else .back] := by unfold Par.blk; rw [if_pos eq]
  rw [hb] at h2
  have h2' := h2.app [.say, .put 40, .back]
  have hle := h2.le
  simp only [List.length_append, List.length_replicate, List.length_cons, List.length_nil] at hle
  have wideG : ∀ x : Int, 0 ≤ x → x < code.length → goalOf (if wide = 1 then (0, (code.length : Int), (code.length : Int)) :: stx else if wide = 2 then stx ++ [(0, (code.length : Int), (code.length : Int))] else stx) x = if wide = 1 then some (code.length : Int) else match goalOf stx x with | some g => some g | none => if wide = 2 then some (code.length : Int) else none := fun x x0 x1 => by
    by_cases w1 : wide = 1
    · rw [if_pos w1, if_pos w1]; simp only [goalOf]; rw [if_pos ⟨x0, x1⟩]
    · rw [if_neg w1, if_neg w1]
      by_cases w2 : wide = 2
      · rw [if_pos w2, goalOf_append, if_pos w2]
        simp only [goalOf]
        rw [if_pos ⟨x0, x1⟩]
      · rw [if_neg w2, if_neg w2]; cases goalOf stx x <;> rfl
  refine ⟨starts[0]?.getD 0, by unfold lAt; rw [if_pos (by decide)]; exact pk 0 hm, ?_⟩
  refine outcome L (n := n) (mk := P.mar) (raises := P.raises) (cnt := P.cnt) hm ht hc hw (fun i hi => ?_) ?_ ?_ (fun j hj => ?_) ?_
  · rw [h1]
    exact h2'.get (by rw [List.getElem?_append_left (by simpa using hi)]; exact List.getElem?_replicate_of_lt hi)
  · rw [h1]
    exact h2'.get (by rw [List.getElem?_append_right (by simp)]; simp)
  · rw [h1]
    have := h2'.get (i := P.cnt + 1) (r := if P.raises = true then .raise else .back) (by rw [List.getElem?_append_right (by simp)]; simp)
    rw [Option.getD_some, show ((q : Int) + (P.cnt : Nat) + 1) = (q : Int) + ((P.cnt + 1 : Nat) : Int) by first | assumption | exact Nat.lt_of_succ_lt (by assumption) | exact Nat.le_of_lt (by assumption) | lia | omega]
    exact this
  · obtain ⟨q', g1, g2, g3, _⟩ := all j (by first | assumption | exact Nat.lt_of_succ_lt (by assumption) | exact Nat.le_of_lt (by assumption) | lia | omega)
    have hl8 := g2.le
    rw [blk1 j hj] at hl8
    simp only [List.length_cons, List.length_nil] at hl8
    rw [show starts[j]?.getD 0 = ((q' : Nat) : Int) by rw [g1]; rfl]
    dsimp only
    rw [wideG _ (by first | assumption | exact Nat.lt_of_succ_lt (by assumption) | exact Nat.le_of_lt (by assumption) | lia | omega) (by first | assumption | exact Nat.lt_of_succ_lt (by assumption) | exact Nat.le_of_lt (by assumption) | lia | omega), g3 hj _ (by first | assumption | exact Nat.lt_of_succ_lt (by assumption) | exact Nat.le_of_lt (by assumption) | lia | omega) (by first | assumption | exact Nat.lt_of_succ_lt (by assumption) | exact Nat.le_of_lt (by assumption) | lia | omega)]
    by_cases w1 : wide = 1
    · rw [if_pos w1, if_pos w1]
    · rw [if_neg w1, if_neg w1]
      by_cases q : P.mar j = true
      · rw [if_pos q, if_pos q]
      · rw [if_neg q, if_neg q]
  · rw [show starts[P.m - 1]?.getD 0 = ((q : Nat) : Int) by rw [h1]; rfl]
    dsimp only
    rw [wideG _ (by first | assumption | exact Nat.lt_of_succ_lt (by assumption) | exact Nat.le_of_lt (by assumption) | lia | omega) (by first | assumption | exact Nat.lt_of_succ_lt (by assumption) | exact Nat.le_of_lt (by assumption) | lia | omega), h4 eq _ (by first | assumption | exact Nat.lt_of_succ_lt (by assumption) | exact Nat.le_of_lt (by assumption) | lia | omega) (by first | assumption | exact Nat.lt_of_succ_lt (by assumption) | exact Nat.le_of_lt (by assumption) | lia | omega)]
    by_cases w1 : wide = 1
    · rw [if_pos w1, if_neg (by first | assumption | exact Nat.lt_of_succ_lt (by assumption) | exact Nat.le_of_lt (by assumption) | lia | omega)]
    · rw [if_neg w1]
      by_cases w2 : wide = 2
      · rw [if_pos w2, if_neg (by first | assumption | exact Nat.lt_of_succ_lt (by assumption) | exact Nat.le_of_lt (by assumption) | lia | omega)]
      · rw [if_neg w2, if_pos (by first | assumption | exact Nat.lt_of_succ_lt (by assumption) | exact Nat.le_of_lt (by assumption) | lia | omega)]
end Mine.L04

end
noncomputable section
namespace Mine.L04
open Mine

noncomputable def fParts_7 : S := .seq (.asg (.loc 6) (.bin .add (.bin .add (.loc 6) (.bin .mul (.lst [(.tup [(.str 20), (.int 9)])]) (.bin .mod (.bin .div (.loc 4) (.int 36)) (.int 3)))) (.lst [(.tup [(.str 21), (.int 0)]), (.ite (.loc 2) (.tup [(.str 31)]) (.tup [(.str 15)]))]))) .skip
noncomputable def fParts_9 : S := .seq (.expr (.meth (.loc 7) 0 [(.tup [(.bi .len [(.loc 6)]), (.bin .add (.bi .len [(.loc 6)]) (.int 3)), (.bin .add (.bi .len [(.loc 6)]) (.int 5))])])) .skip
noncomputable def fParts_11 : S := .seq (.asg (.loc 6) (.bin .add (.loc 6) (.lst [(.tup [(.str 23)]), (.tup [(.str 20), (.bin .add (.int 50) (.loc 10))]), (.tup [(.str 15)])]))) .skip
noncomputable def fParts_10 : S := .seq (.asg (.loc 6) (.bin .add (.loc 6) (.lst [(.tup [(.str 20), (.idx (.loc 5) (.loc 10))]), (.tup [(.str 21), (.int 0)]), (.tup [(.str 14), (.bin .add (.loc 10) (.int 1))]), (.tup [(.str 24)]), (.tup [(.str 15)])]))) fParts_11
noncomputable def fParts_8 : S := .seq (.if_ (.idx (.loc 1) (.loc 10)) fParts_9 .skip) fParts_10
noncomputable def fParts_6 : S := .seq (.if_ (.cmp .eq (.loc 10) (.bin .sub (.loc 0) (.int 1))) fParts_7 fParts_8) .skip
noncomputable def fParts_5 : S := .seq (.asg (.idx (.loc 8) (.loc 10)) (.bi .len [(.loc 6)])) fParts_6
noncomputable def fParts_4 : S := .seq (.asg (.loc 10) (.bin .mod (.bin .add (.loc 9) (.bin .div (.loc 4) (.int 3))) (.loc 0))) fParts_5
noncomputable def fParts_13 : S := .seq (.asg (.loc 7) (.bin .add (.lst [(.tup [(.int 0), (.bi .len [(.loc 6)]), (.bi .len [(.loc 6)])])]) (.loc 7))) .skip
noncomputable def fParts_15 : S := .seq (.asg (.loc 7) (.bin .add (.loc 7) (.lst [(.tup [(.int 0), (.bi .len [(.loc 6)]), (.bi .len [(.loc 6)])])]))) .skip
noncomputable def fParts_16 : S := .seq (.ret (.tup [(.bin .add (.loc 6) (.lst [(.tup [(.str 23)]), (.tup [(.str 20), (.int 40)]), (.tup [(.str 15)])])), (.loc 7), (.loc 8), (.int 1)])) .skip
noncomputable def fParts_14 : S := .seq (.if_ (.cmp .eq (.loc 3) (.int 2)) fParts_15 .skip) fParts_16
noncomputable def fParts_12 : S := .seq (.if_ (.cmp .eq (.loc 3) (.int 1)) fParts_13 .skip) fParts_14
noncomputable def fParts_3 : S := .seq (.for_ [9] .range (.loc 0) fParts_4) fParts_12
noncomputable def fParts_2 : S := .seq (.asg (.loc 8) (.bin .mul (.lst [(.int 0)]) (.loc 0))) fParts_3
noncomputable def fParts_1 : S := .seq (.asg (.loc 7) (.lst [])) fParts_2
noncomputable def fParts_0 : S := .seq (.asg (.loc 6) (.slc (.lst [(.tup [(.str 20), (.int 77)]), (.tup [(.str 23)]), (.tup [(.str 20), (.int 78)]), (.tup [(.str 15)])]) (.bin .sub (.int 4) (.bin .mul (.bin .mod (.loc 4) (.int 3)) (.int 2))) .none)) fParts_1
noncomputable def fParts : Fn := ⟨6, 11, fParts_0⟩
noncomputable def fDue_1 : S := .seq (.ret (.tup [(.lst []), (.str 34), (.bin .add (.loc 3) (.bi .sum [(.slc (.loc 5) .none (.bin .sub (.loc 0) (.int 1)))]))])) .skip
noncomputable def fDue_6 : S := .seq (.ret (.tup [(.lst [(.loc 6)]), (.str 34), (.bin .add (.ite (.loc 8) (.int 57) (.int 40)) (.bi .sum [(.slc (.loc 5) .none (.loc 7))]))])) .skip
noncomputable def fDue_5 : S := .seq (.asg (.loc 8) (.and_ (.cmp .gt (.loc 0) (.int 8)) (.and_ (.idx (.loc 1) (.int 7)) (.cmp .eq (.loc 4) (.int 2))))) fDue_6
noncomputable def fDue_9 : S := .seq (.ret (.tup [(.lst [(.loc 6)]), (.str 34), (.bin .add (.bin .add (.int 50) (.loc 9)) (.bi .sum [(.slc (.loc 5) .none (.loc 9))]))])) .skip
noncomputable def fDue_8 : S := .seq (.if_ (.idx (.loc 1) (.loc 9)) fDue_9 .skip) .skip
noncomputable def fDue_10 : S := .seq (.ret (.tup [(.lst []), (.str 13), (.loc 6)])) .skip
noncomputable def fDue_7 : S := .seq (.for_ [9] .revRange (.bi .min [(.bin .sub (.loc 0) (.int 1)), (.int 8)]) fDue_8) fDue_10
noncomputable def fDue_4 : S := .seq (.if_ (.cmp .gt (.loc 4) (.int 0)) fDue_5 .skip) fDue_7
noncomputable def fDue_3 : S := .seq (.asg (.loc 7) (.bin .sub (.bi .min [(.loc 0), (.int 8)]) (.int 1))) fDue_4
noncomputable def fDue_2 : S := .seq (.asg (.loc 6) (.ite (.cmp .gt (.loc 0) (.int 8)) (.int 102) (.loc 3))) fDue_3
noncomputable def fDue_0 : S := .seq (.if_ (.and_ (.cmp .le (.loc 0) (.int 8)) (.not_ (.loc 2))) fDue_1 .skip) fDue_2
noncomputable def fDue : Fn := ⟨6, 10, fDue_0⟩
noncomputable def fLaw_12 : S := .seq (.asg (.loc 11) (.call 16 [(.loc 2), (.loc 4), (.loc 6), (.loc 3), (.loc 7), (.loc 5)])) .skip
noncomputable def fLaw_14 : S := .seq (.ret (.bool false)) .skip
noncomputable def fLaw_16 : S := .seq (.ret (.bool false)) .skip
noncomputable def fLaw_17 : S := .seq (.ret (.and_ (.isi (.idx (.loc 10) (.int 1)) .str) (.and_ (.call 12 [(.idx (.loc 10) (.int 2))]) (.cmp .eq (.tup [(.idx (.loc 10) (.int 1)), (.idx (.loc 10) (.int 2))]) (.tup [(.idx (.loc 11) (.int 1)), (.idx (.loc 11) (.int 2))]))))) .skip
noncomputable def fLaw_15 : S := .seq (.if_ (.or_ (.not_ (.isi (.idx (.loc 10) (.int 0)) .list)) (.or_ (.cmp .gt (.bi .len [(.comp 2 [] [1] .seq (.idx (.loc 10) (.int 0)) [(.not_ (.call 12 [(.loc 1)]))] (.loc 1))]) (.int 0)) (.cmp .ne (.idx (.loc 10) (.int 0)) (.idx (.loc 11) (.int 0))))) fLaw_16 .skip) fLaw_17
noncomputable def fLaw_13 : S := .seq (.if_ (.or_ (.cmp .ne (.int 8) (.int 8)) (.or_ (.cmp .ne (.int 102) (.int 102)) (.or_ (.not_ (.isi (.loc 10) .tuple)) (.cmp .ne (.bi .len [(.loc 10)]) (.int 3))))) fLaw_14 .skip) fLaw_15
noncomputable def fLaw_11 : S := .seq (.if_ (.cmp .ge (.loc 8) (.bin .sub (.bi .min [(.loc 2), (.int 9)]) (.int 1))) fLaw_12 .skip) fLaw_13
noncomputable def fLaw_10 : S := .seq (.asg (.loc 11) (.tup [(.lst []), (.str 33), (.int 0)])) fLaw_11
noncomputable def fLaw_9 : S := .seq (.asg (.loc 10) (.call 11 [(.tup [(.bi .list [(.idx (.loc 9) (.int 0))]), (.bi .list [(.idx (.loc 9) (.int 1))]), (.bi .list [(.idx (.loc 9) (.int 2))]), (.int 1)]), (.loc 3), (.loc 8)])) fLaw_10
noncomputable def fLaw_8 : S := .seq (.asg (.loc 9) (.call 15 [(.loc 2), (.loc 4), (.loc 6), (.loc 7), (.bin .mod (.bin .div (.loc 1) (.int 72)) (.int 108)), (.loc 5)])) fLaw_9
noncomputable def fLaw_7 : S := .seq (.asg (.loc 8) (.bin .mod (.call 13 [(.loc 0), (.int 2)]) (.int 15))) fLaw_8
noncomputable def fLaw_6 : S := .seq (.asg (.loc 7) (.bin .mod (.bin .div (.loc 1) (.int 24)) (.int 3))) fLaw_7
noncomputable def fLaw_5 : S := .seq (.asg (.loc 6) (.cmp .eq (.bin .mod (.bin .div (.loc 1) (.int 12)) (.int 2)) (.int 1))) fLaw_6
noncomputable def fLaw_4 : S := .seq (.asg (.loc 5) (.comp 3 [(2, 0)] [1] .range (.loc 2) [] (.bin .sub (.bin .mod (.bin .div (.call 13 [(.loc 2), (.bin .add (.int 3) (.loc 1))]) (.int 3)) (.int 40)) (.int 5)))) fLaw_5
noncomputable def fLaw_3 : S := .seq (.asg (.loc 4) (.comp 3 [(2, 0)] [1] .range (.loc 2) [] (.cmp .eq (.bin .mod (.call 13 [(.loc 2), (.bin .add (.int 3) (.loc 1))]) (.int 3)) (.int 1)))) fLaw_4
noncomputable def fLaw_2 : S := .seq (.asg (.loc 3) (.call 14 [(.call 13 [(.loc 0), (.int 1)])])) fLaw_3
noncomputable def fLaw_1 : S := .seq (.asg (.loc 2) (.bin .add (.int 1) (.bin .mod (.loc 1) (.int 12)))) fLaw_2
noncomputable def fLaw_0 : S := .seq (.asg (.loc 1) (.bin .mod (.bin .mul (.call 13 [(.loc 0), (.int 0)]) (.int 48271)) (.int 1000003))) fLaw_1
noncomputable def fLaw : Fn := ⟨1, 12, fLaw_0⟩
end Mine.L04

end
noncomputable section
namespace Mine.L04
open Mine

structure LG (g : Genv) : Prop where
  M : MG g
  f12 : g.fn 12 = some fWhole
  f13 : g.fn 13 = some fCellAt
  f14 : g.fn 14 = some fNumber
  f15 : g.fn 15 = some fParts
  f16 : g.fn 16 = some fDue
  f17 : g.fn 17 = some fLaw

theorem repL_rep (v : V) : ∀ k, repL [v] k = List.replicate k v
  | 0 => rfl
  | k + 1 => by rw [repL, repL_rep v k, List.replicate_succ]; rfl
theorem fdivN (a b : Nat) (hb : 0 < b) : Int.fdiv (a : Int) (b : Int) = ((a / b : Nat) : Int) := by
  rw [Int.fdiv_eq_ediv_of_nonneg _ (by first | assumption | exact Nat.lt_of_succ_lt (by assumption) | exact Nat.le_of_lt (by assumption) | lia | omega)]; rfl
theorem fmodN (a b : Nat) : Int.fmod (a : Int) (b : Int) = ((a % b : Nat) : Int) := by
  rw [Int.fmod_eq_emod_of_nonneg _ (by first | assumption | exact Nat.lt_of_succ_lt (by assumption) | exact Nat.le_of_lt (by assumption) | lia | omega)]; rfl

noncomputable def marksV (P : Par) : O := .list ((List.range P.m).map fun k => .bool (P.mar k))
noncomputable def moreV (P : Par) : O := .list ((List.range P.m).map fun k => .int (P.mo k))
theorem range_at {α : Type} {f : Nat → V} {m k : Nat} (h : k < m) : seqAt ((List.range m).map f) (k : Int) = some (f k) := by
  rw [seqAt_nat (by first | assumption | exact Nat.lt_of_succ_lt (by assumption) | exact Nat.le_of_lt (by assumption) | lia | omega), List.getElem?_map, Int.toNat_natCast, List.getElem?_range h]; rfl

section
variable {g : Genv} (G : LG g)
include G

omit G in
theorem ite_rows {C N : Oracle} {b : Bool} {l0 l1 : Option V} {l : Locs} {X : Nat → Hp → Prop} (h : Hp) (Q : V → Hp → Prop) : wpE g C N (l0 :: l1 :: some (.bool b) :: l) (.ite (.loc 2) (.tup [(.str 31)]) (.tup [(.str 15)])) h Q X = Q (if b = true then V.tup [.str 31] else V.tup [.str 15]) h := by
  cases b <;> rfl
noncomputable def rV (P : Par) : V := if P.raises = true then V.tup [.str 31] else V.tup [.str 15]
noncomputable def lastB (P : Par) : List Row := List.replicate P.cnt (.put 9) ++ [.get 0, if P.raises = true then .raise else .back]
noncomputable def midB (P : Par) (k : Nat) : List Row := [.put (P.mo k), .get 0, .call ((k + 1 : Nat) : Int), .ari .add, .back, .say, .put (50 + (k : Int)), .back]
omit G in
theorem lastB_v (P : Par) (code : List Row) : (code.map Row.v ++ List.replicate P.cnt (V.tup [.str 20, .int 9])) ++ [V.tup [.str 21, .int 0], rV P] = (code ++ lastB P).map Row.v := by
  unfold lastB rV
  cases P.raises <;> simp [Row.v]

theorem last_blk {C N : Oracle} {b : Nat} {h : Hp} {P : Par} {tn Cd S B Mk Mo : Nat} {code : List Row} {stx : List (Int × Int × Int)} {starts : List Int} {wv u v : V} {K : St → Prop} {Q : V → Hp → Prop} {X : Nat → Hp → Prop}
    (w : Own b h [(Cd, .list (code.map Row.v)), (S, .list (stx.map strV)), (B, iL starts)]) (hcl : code.length ≤ 200) (hcnt : P.cnt = tn / 36 % 3)
    (hK : ∀ Cd' h', Own b h' [(Cd', .list ((code ++ lastB P).map Row.v)), (S, .list (stx.map strV)), (B, iL starts)] → Keep b h h' → K ⟨[some (.int P.m), some (.ref Mk), some (.bool P.raises), some wv, some (.int (tn : Int)), some (.ref Mo), some (.ref Cd'), some (.ref S), some (.ref B), some u, some v], h'⟩) :
    wpS g C N fParts_7 ⟨[some (.int P.m), some (.ref Mk), some (.bool P.raises), some wv, some (.int (tn : Int)), some (.ref Mo), some (.ref Cd), some (.ref S), some (.ref B), some u, some v], h⟩ K Q X := by
  have e36 : Int.fdiv (tn : Int) 36 = ((tn / 36 : Nat) : Int) := fdivN tn 36 (by decide)
  have e3 : Int.fmod ((tn / 36 : Nat) : Int) 3 = ((tn / 36 % 3 : Nat) : Int) := fmodN _ 3
  have b36 : (36 : Int) ≠ 0 := by decide
  have b3 : (3 : Int) ≠ 0 := by decide
  rw [← hcnt] at e3
  have c2 : P.cnt ≤ 2 := by first | assumption | exact Nat.lt_of_succ_lt (by assumption) | exact Nat.le_of_lt (by assumption) | lia | omega
  have w1 := w.alloc (.list [V.tup [.str 20, .int 9]])
  have g1 := w1.get (i := 0) rfl
  have w2 := w1.alloc (.list (List.replicate P.cnt (V.tup [.str 20, .int 9])))
  have g2 := w2.get (i := 0) rfl
  have g2c := w2.get (i := 2) rfl
  have w3 := w2.alloc (.list (code.map Row.v ++ List.replicate P.cnt (V.tup [.str 20, .int 9])))
  have w4 := w3.alloc (.list [V.tup [.str 21, .int 0], rV P])
  have g4 := w4.get (i := 0) rfl
  have g4c := w4.get (i := 1) rfl
  have w5 := w4.alloc (.list ((code.map Row.v ++ List.replicate P.cnt (V.tup [.str 20, .int 9])) ++ [V.tup [.str 21, .int 0], rV P]))
  have m1 := bin_mull (n := ((P.cnt : Nat) : Int)) g1 ⟨by unfold lim; (first | lia | omega), by simp [lim]; (first | lia | omega)⟩
  rw [Int.toNat_natCast, repL_rep] at m1
  have m2 := bin_addl g2c g2 (by simp [lim]; (first | lia | omega))
  have m3 := bin_addl g4c g4 (by simp [lim]; (first | lia | omega))
  have k5 := (((((Keep.refl b h).app w.bl (.list [V.tup [.str 20, .int 9]])).app w.bl (.list (List.replicate P.cnt (V.tup [.str 20, .int 9])))).app w.bl (.list (code.map Row.v ++ List.replicate P.cnt (V.tup [.str 20, .int 9])))).app w.bl (.list [V.tup [.str 21, .int 0], rV P])).app w.bl (.list ((code.map Row.v ++ List.replicate P.cnt (V.tup [.str 20, .int 9])) ++ [V.tup [.str 21, .int 0], rV P]))
  rw [lastB_v] at w5 k5 m3
  have fin := hK _ _ (w5.sub (.cons_cons _ (.cons _ (.cons _ (.cons _ (.cons _ (.cons _ (List.Sublist.refl _)))))))) k5
  rw [fParts_7, wpS_seq, wS_asg, wE_bin, wE_bin]
  simp only [wE_loc, getLs, getL0, onSome_some, wE_bin, wE_lst, wEs_cons, wEs_nil, wE_tup, wE_str, wE_int, bin_div _ _ _ b36, e36, bin_mod _ _ _ b3, e3, m1, m2, ite_rows]
  rw [show (if P.raises = true then V.tup [.str 31] else V.tup [.str 15]) = rV P from rfl, m3, onSome_some]
  simp only [wS_skip, wS_seq, wS_expr, wS_asg, wS_if_, wS_while_, wS_for_, wS_ret, wS_raise, wE_none, wE_bool, wE_int, wE_str, wE_loc, wE_glob, wE_bin, wE_not_, wE_cmp, wE_cmp2, wE_and_, wE_or_, wE_ite, wE_tup, wE_lst, wE_dct, wE_idx, wE_slc, wE_attr, wE_call, wE_new, wE_meth, wE_bi, wE_isi, wE_comp, wEs_nil, wEs_cons, wT_loc, wT_attr, wT_idx, wT_unp, wC_nil, wC_cons, onSome_some, isB_bool, cmp_eq, cmp_ne, cmp_lt, cmp_le, cmp_gt, cmp_ge, cmp_is_nn, cmp_is_in, cmp_is_tn, cmp_is_sn, cmp_isn_nn, cmp_isn_in, cmp_isn_tn, cmp_in_t, eqop_int, eqop_str, eqop_nn, eqop_ni, eqop_in, eqop_ns, eqop_sn, bin_add, bin_sub, idx_tup, bi_lent, bi_intb, getL0, getLs, seq0, seq1, seq2, seq3, List.map_cons, List.map_nil, List.cons_append, List.nil_append, List.set_cons_zero, List.set_cons_succ, List.length_cons, List.length_nil, Nat.reduceLT, Nat.reduceAdd, Nat.reduceSub, Nat.reduceEqDiff, if_true, if_false, decide_true, decide_false, Option.map_some, Option.map_none, Bool.not_true, Bool.not_false, getK, putK, List.replicate_succ, List.replicate_zero, true_and, and_true, List.isEmpty_nil, List.isEmpty_cons, asRef_ref, setO_list, Option.bind_some]
  exact fin

theorem rows_blk {C N : Oracle} {b : Nat} {h : Hp} {P : Par} {k Cd S B Mk Mo : Nat} {code : List Row} {stx : List (Int × Int × Int)} {starts : List Int} {wv tv u : V} {K : St → Prop} {Q : V → Hp → Prop} {X : Nat → Hp → Prop}
    (w : Own b h [(Cd, .list (code.map Row.v)), (S, .list (stx.map strV)), (B, iL starts)]) (hk : k < P.m) (hcl : code.length ≤ 200) (hMo : h[Mo]? = some (moreV P)) (bMo : Mo < b)
    (hK : ∀ Cd' h', Own b h' [(Cd', .list ((code ++ midB P k).map Row.v)), (S, .list (stx.map strV)), (B, iL starts)] → Keep b h h' → K ⟨[some (.int P.m), some (.ref Mk), some (.bool P.raises), some wv, some tv, some (.ref Mo), some (.ref Cd'), some (.ref S), some (.ref B), some u, some (.int (k : Int))], h'⟩) :
    wpS g C N fParts_10 ⟨[some (.int P.m), some (.ref Mk), some (.bool P.raises), some wv, some tv, some (.ref Mo), some (.ref Cd), some (.ref S), some (.ref B), some u, some (.int (k : Int))], h⟩ K Q X := by
  have gMo : h[Mo]? = some (.list ((List.range P.m).map fun k => .int (P.mo k))) := hMo
  have w1 := w.alloc (.list [V.tup [.str 20, .int (P.mo k)], V.tup [.str 21, .int 0], V.tup [.str 14, .int ((k : Int) + 1)], V.tup [.str 24], V.tup [.str 15]])
  have g1 := w1.get (i := 0) rfl
  have g1c := w1.get (i := 1) rfl
  have m1 := bin_addl g1c g1 (by simp [lim]; (first | lia | omega))
  have w2 := w1.alloc (.list (code.map Row.v ++ [V.tup [.str 20, .int (P.mo k)], V.tup [.str 21, .int 0], V.tup [.str 14, .int ((k : Int) + 1)], V.tup [.str 24], V.tup [.str 15]]))
  have w3 := w2.alloc (.list [V.tup [.str 23], V.tup [.str 20, .int (50 + (k : Int))], V.tup [.str 15]])
  have g3 := w3.get (i := 0) rfl
  have g3c := w3.get (i := 1) rfl
  have m3 := bin_addl g3c g3 (by simp [lim]; (first | lia | omega))
  have w4 := w3.alloc (.list (code.map Row.v ++ [V.tup [.str 20, .int (P.mo k)], V.tup [.str 21, .int 0], V.tup [.str 14, .int ((k : Int) + 1)], V.tup [.str 24], V.tup [.str 15]] ++ [V.tup [.str 23], V.tup [.str 20, .int (50 + (k : Int))], V.tup [.str 15]]))
  have k4 := ((((Keep.refl b h).app w.bl (.list [V.tup [.str 20, .int (P.mo k)], V.tup [.str 21, .int 0], V.tup [.str 14, .int ((k : Int) + 1)], V.tup [.str 24], V.tup [.str 15]])).app w.bl (.list (code.map Row.v ++ [V.tup [.str 20, .int (P.mo k)], V.tup [.str 21, .int 0], V.tup [.str 14, .int ((k : Int) + 1)], V.tup [.str 24], V.tup [.str 15]]))).app w.bl (.list [V.tup [.str 23], V.tup [.str 20, .int (50 + (k : Int))], V.tup [.str 15]])).app w.bl (.list (code.map Row.v ++ [V.tup [.str 20, .int (P.mo k)], V.tup [.str 21, .int 0], V.tup [.str 14, .int ((k : Int) + 1)], V.tup [.str 24], V.tup [.str 15]] ++ [V.tup [.str 23], V.tup [.str 20, .int (50 + (k : Int))], V.tup [.str 15]]))
  have ec : code.map Row.v ++ [V.tup [.str 20, .int (P.mo k)], V.tup [.str 21, .int 0], V.tup [.str 14, .int ((k : Int) + 1)], V.tup [.str 24], V.tup [.str 15]] ++ [V.tup [.str 23], V.tup [.str 20, .int (50 + (k : Int))], V.tup [.str 15]] = (code ++ midB P k).map Row.v := by
    simp [midB, Row.v, Ari.w]
  rw [ec] at w4 k4 m3
  have fin := hK _ _ (w4.sub (.cons_cons _ (.cons _ (.cons _ (.cons _ (.cons _ (List.Sublist.refl _))))))) k4
  rw [fParts_10, wpS_seq, wS_asg]
  simp only [wE_loc, getLs, getL0, onSome_some, wE_bin, wE_lst, wEs_cons, wEs_nil, wE_tup, wE_str, wE_int, wE_idx, ix_list gMo, range_at (α := V) (f := fun k => V.int (P.mo k)) hk, bin_add, m1]
  rw [wT_loc]
  simp only [List.length_cons, List.length_nil, Nat.reduceAdd, Nat.reduceLT, true_and, List.set_cons_succ, List.set_cons_zero]
  rw [fParts_11, wpS_seq, wS_asg]
  simp only [wE_loc, getLs, getL0, onSome_some, wE_bin, wE_lst, wEs_cons, wEs_nil, wE_tup, wE_str, wE_int, bin_add, m3]
  rw [wT_loc]
  simp only [List.length_cons, List.length_nil, Nat.reduceAdd, Nat.reduceLT, true_and, List.set_cons_succ, List.set_cons_zero, wS_skip]
  exact fin

theorem mid_blk {C N : Oracle} {b : Nat} {h : Hp} {P : Par} {k Cd S B Mk Mo : Nat} {code : List Row} {stx : List (Int × Int × Int)} {starts : List Int} {wv tv u : V} {K : St → Prop} {Q : V → Hp → Prop} {X : Nat → Hp → Prop}
    (w : Own b h [(Cd, .list (code.map Row.v)), (S, .list (stx.map strV)), (B, iL starts)]) (hk : k < P.m) (hcl : code.length ≤ 200) (hsl : stx.length ≤ 200) (hMk : h[Mk]? = some (marksV P)) (bMk : Mk < b) (hMo : h[Mo]? = some (moreV P)) (bMo : Mo < b)
    (hK : ∀ Cd' h', Own b h' [(Cd', .list ((code ++ midB P k).map Row.v)), (S, .list ((if P.mar k = true then stx ++ [((code.length : Int), (code.length : Int) + 3, (code.length : Int) + 5)] else stx).map strV)), (B, iL starts)] → Keep b h h' → K ⟨[some (.int P.m), some (.ref Mk), some (.bool P.raises), some wv, some tv, some (.ref Mo), some (.ref Cd'), some (.ref S), some (.ref B), some u, some (.int (k : Int))], h'⟩) :
    wpS g C N fParts_8 ⟨[some (.int P.m), some (.ref Mk), some (.bool P.raises), some wv, some tv, some (.ref Mo), some (.ref Cd), some (.ref S), some (.ref B), some u, some (.int (k : Int))], h⟩ K Q X := by
  have gMk : h[Mk]? = some (.list ((List.range P.m).map fun k => .bool (P.mar k))) := hMk
  have gC := w.get (i := 0) rfl
  have gS := w.get (i := 1) rfl
  rw [fParts_8, wpS_seq, wS_if_]
  simp only [wE_loc, getLs, getL0, onSome_some, wE_idx, ix_list gMk, range_at (α := V) (f := fun k => V.bool (P.mar k)) hk, isB_bool]
  cases hm : P.mar k with
  | false =>
    rw [hm] at hK
    simp only [wS_skip]
    exact rows_blk G w hk hcl hMo bMo hK
  | true =>
    rw [hm] at hK
    have w1 := w.set 1 rfl (.list ((stx ++ [((code.length : Int), (code.length : Int) + 3, (code.length : Int) + 5)]).map strV))
    have k1 := (Keep.refl b h).set (w.geq (i := 1) rfl) (.list ((stx ++ [((code.length : Int), (code.length : Int) + 3, (code.length : Int) + 5)]).map strV))
    have ls : (stx.map strV).length < lim := by rw [List.length_map]; unfold lim; (first | lia | omega)
    have es : stx.map strV ++ [V.tup [.int (code.length : Int), .int ((code.length : Int) + 3), .int ((code.length : Int) + 5)]] = (stx ++ [((code.length : Int), (code.length : Int) + 3, (code.length : Int) + 5)]).map strV := by simp [strV]
    simp only [fParts_9, wS_skip, wS_seq, wS_expr, wS_asg, wS_if_, wS_while_, wS_for_, wS_ret, wS_raise, wE_none, wE_bool, wE_int, wE_str, wE_loc, wE_glob, wE_bin, wE_not_, wE_cmp, wE_cmp2, wE_and_, wE_or_, wE_ite, wE_tup, wE_lst, wE_dct, wE_idx, wE_slc, wE_attr, wE_call, wE_new, wE_meth, wE_bi, wE_isi, wE_comp, wEs_nil, wEs_cons, wT_loc, wT_attr, wT_idx, wT_unp, wC_nil, wC_cons, onSome_some, isB_bool, cmp_eq, cmp_ne, cmp_lt, cmp_le, cmp_gt, cmp_ge, cmp_is_nn, cmp_is_in, cmp_is_tn, cmp_is_sn, cmp_isn_nn, cmp_isn_in, cmp_isn_tn, cmp_in_t, eqop_int, eqop_str, eqop_nn, eqop_ni, eqop_in, eqop_ns, eqop_sn, bin_add, bin_sub, idx_tup, bi_lent, bi_intb, getL0, getLs, seq0, seq1, seq2, seq3, List.map_cons, List.map_nil, List.cons_append, List.nil_append, List.set_cons_zero, List.set_cons_succ, List.length_cons, List.length_nil, Nat.reduceLT, Nat.reduceAdd, Nat.reduceSub, Nat.reduceEqDiff, if_true, if_false, decide_true, decide_false, Option.map_some, Option.map_none, Bool.not_true, Bool.not_false, getK, putK, List.replicate_succ, List.replicate_zero, true_and, and_true, List.isEmpty_nil, List.isEmpty_cons, asRef_ref, setO_list, Option.bind_some, gS, mAppend, bi_len gC, List.length_map, ls, es]
    exact ⟨by unfold lim; (first | lia | omega), rows_blk G w1 hk hcl ((k1.2 _ bMo).trans hMo) bMo fun Cd' h' z1 z2 => hK Cd' h' z1 (k1.trans z2)⟩

omit G in
theorem blk_last {P : Par} {k : Nat} (h : k + 1 = P.m) : P.blk k = lastB P := by unfold Par.blk lastB; rw [if_pos h]
omit G in
theorem blk_mid {P : Par} {k : Nat} (h : k + 1 < P.m) : P.blk k = midB P k := by unfold Par.blk midB; rw [if_neg (by first | assumption | exact Nat.lt_of_succ_lt (by assumption) | exact Nat.le_of_lt (by assumption) | lia | omega)]
noncomputable def wideS (wide : Nat) (len : Int) (stx : List (Int × Int × Int)) : List (Int × Int × Int) := if wide = 1 then (0, len, len) :: stx else if wide = 2 then stx ++ [(0, len, len)] else stx

theorem fin_parts {C N : Oracle} {b : Nat} {h : Hp} {P : Par} {wide Cd S B : Nat} {code : List Row} {stx : List (Int × Int × Int)} {starts : List Int} {l1 l2 l4 l5 l9 l10 : Option V} {KN : St → Prop} {Q : V → Hp → Prop} {X : Nat → Hp → Prop}
    (w : Own b h [(Cd, .list (code.map Row.v)), (S, .list (stx.map strV)), (B, iL starts)]) (hcl : code.length ≤ 200) (hsl : stx.length ≤ 200) (hw : wide ≤ 2)
    (hQ : ∀ C' S' h', h'[C']? = some (.list ((code ++ [Row.say, Row.put 40, Row.back]).map Row.v)) → h'[S']? = some (.list ((wideS wide (code.length : Int) stx).map strV)) → h'[B]? = some (iL starts) → Keep b h h' → Q (.tup [.ref C', .ref S', .ref B, .int 1]) h') :
    wpS g C N fParts_12 ⟨[some (.int P.m), l1, l2, some (.int (wide : Int)), l4, l5, some (.ref Cd), some (.ref S), some (.ref B), l9, l10], h⟩ KN Q X := by
  have fin : ∀ S' h1, Own b h1 [(S', .list ((wideS wide (code.length : Int) stx).map strV)), (Cd, .list (code.map Row.v)), (B, iL starts)] → Keep b h h1 → wpS g C N fParts_16 ⟨[some (.int P.m), l1, l2, some (.int (wide : Int)), l4, l5, some (.ref Cd), some (.ref S'), some (.ref B), l9, l10], h1⟩ KN Q X := fun S' h1 w1 k1 => by
    have w2 := w1.alloc (.list [V.tup [.str 23], V.tup [.str 20, .int 40], V.tup [.str 15]])
    have g2 := w2.get (i := 0) rfl
    have g2c := w2.get (i := 2) rfl
    have m2 := bin_addl g2c g2 (by simp [lim]; (first | lia | omega))
    have w3 := w2.alloc (.list (code.map Row.v ++ [V.tup [.str 23], V.tup [.str 20, .int 40], V.tup [.str 15]]))
    have k3 := (k1.app w.bl (.list [V.tup [.str 23], V.tup [.str 20, .int 40], V.tup [.str 15]])).app w.bl (.list (code.map Row.v ++ [V.tup [.str 23], V.tup [.str 20, .int 40], V.tup [.str 15]]))
    have ec : code.map Row.v ++ [V.tup [.str 23], V.tup [.str 20, .int 40], V.tup [.str 15]] = (code ++ [Row.say, Row.put 40, Row.back]).map Row.v := by simp [Row.v]
    rw [ec] at w3 k3 m2
    simp only [fParts_16, wS_seq, wS_ret, wE_tup, wEs_cons, wEs_nil, wE_bin, wE_loc, getLs, getL0, onSome_some, wE_lst, wE_str, wE_int, m2]
    exact hQ _ _ _ (w3.get (i := 0) rfl) (w3.get (i := 2) rfl) (w3.get (i := 4) rfl) k3
  have gC := w.get (i := 0) rfl
  have gS := w.get (i := 1) rfl
  by_cases w1 : wide = 1
  · subst w1
    have wa := w.alloc (.list [strV (0, (code.length : Int), (code.length : Int))])
    have ga := wa.get (i := 0) rfl
    have gb := wa.get (i := 2) rfl
    have m2 := bin_addl ga gb (by simp [lim]; (first | lia | omega))
    have wb := wa.alloc (.list ([strV (0, (code.length : Int), (code.length : Int))] ++ stx.map strV))
    have kb := ((Keep.refl b h).app w.bl (.list [strV (0, (code.length : Int), (code.length : Int))])).app w.bl (.list ([strV (0, (code.length : Int), (code.length : Int))] ++ stx.map strV))
    simp only [fParts_12, fParts_13, fParts_14, wS_skip, wS_seq, wS_expr, wS_asg, wS_if_, wS_while_, wS_for_, wS_ret, wS_raise, wE_none, wE_bool, wE_int, wE_str, wE_loc, wE_glob, wE_bin, wE_not_, wE_cmp, wE_cmp2, wE_and_, wE_or_, wE_ite, wE_tup, wE_lst, wE_dct, wE_idx, wE_slc, wE_attr, wE_call, wE_new, wE_meth, wE_bi, wE_isi, wE_comp, wEs_nil, wEs_cons, wT_loc, wT_attr, wT_idx, wT_unp, wC_nil, wC_cons, onSome_some, isB_bool, cmp_eq, cmp_ne, cmp_lt, cmp_le, cmp_gt, cmp_ge, cmp_is_nn, cmp_is_in, cmp_is_tn, cmp_is_sn, cmp_isn_nn, cmp_isn_in, cmp_isn_tn, cmp_in_t, eqop_int, eqop_str, eqop_nn, eqop_ni, eqop_in, eqop_ns, eqop_sn, bin_add, bin_sub, idx_tup, bi_lent, bi_intb, getL0, getLs, seq0, seq1, seq2, seq3, List.map_cons, List.map_nil, List.cons_append, List.nil_append, List.set_cons_zero, List.set_cons_succ, List.length_cons, List.length_nil, Nat.reduceLT, Nat.reduceAdd, Nat.reduceSub, Nat.reduceEqDiff, if_true, if_false, decide_true, decide_false, Option.map_some, Option.map_none, Bool.not_true, Bool.not_false, getK, putK, List.replicate_succ, List.replicate_zero, true_and, and_true, List.isEmpty_nil, List.isEmpty_cons, asRef_ref, setO_list, Option.bind_some, bi_len gC, List.length_map, show (((1 : Nat) : Int) = 1) from rfl, show ¬ (((1 : Nat) : Int) = 2) by decide]
    change onSome (binop .add (.ref h.length) (.ref S) (h ++ [.list [strV (0, (code.length : Int), (code.length : Int))]])) _
    rw [m2, onSome_some]
    refine fin _ _ ?_ kb
    exact wb.sub (.cons_cons _ (.cons _ (.cons_cons _ (.cons _ (List.Sublist.refl _)))))
  · by_cases w2 : wide = 2
    · subst w2
      have wa := w.alloc (.list [strV (0, (code.length : Int), (code.length : Int))])
      have ga := wa.get (i := 0) rfl
      have gb := wa.get (i := 2) rfl
      have m2 := bin_addl gb ga (by simp [lim]; (first | lia | omega))
      have wb := wa.alloc (.list (stx.map strV ++ [strV (0, (code.length : Int), (code.length : Int))]))
      have kb := ((Keep.refl b h).app w.bl (.list [strV (0, (code.length : Int), (code.length : Int))])).app w.bl (.list (stx.map strV ++ [strV (0, (code.length : Int), (code.length : Int))]))
      have es : stx.map strV ++ [strV (0, (code.length : Int), (code.length : Int))] = (wideS 2 (code.length : Int) stx).map strV := by simp [wideS]
      rw [es] at m2 wb kb
      simp only [fParts_12, fParts_14, fParts_15, wS_skip, wS_seq, wS_expr, wS_asg, wS_if_, wS_while_, wS_for_, wS_ret, wS_raise, wE_none, wE_bool, wE_int, wE_str, wE_loc, wE_glob, wE_bin, wE_not_, wE_cmp, wE_cmp2, wE_and_, wE_or_, wE_ite, wE_tup, wE_lst, wE_dct, wE_idx, wE_slc, wE_attr, wE_call, wE_new, wE_meth, wE_bi, wE_isi, wE_comp, wEs_nil, wEs_cons, wT_loc, wT_attr, wT_idx, wT_unp, wC_nil, wC_cons, onSome_some, isB_bool, cmp_eq, cmp_ne, cmp_lt, cmp_le, cmp_gt, cmp_ge, cmp_is_nn, cmp_is_in, cmp_is_tn, cmp_is_sn, cmp_isn_nn, cmp_isn_in, cmp_isn_tn, cmp_in_t, eqop_int, eqop_str, eqop_nn, eqop_ni, eqop_in, eqop_ns, eqop_sn, bin_add, bin_sub, idx_tup, bi_lent, bi_intb, getL0, getLs, seq0, seq1, seq2, seq3, List.map_cons, List.map_nil, List.cons_append, List.nil_append, List.set_cons_zero, List.set_cons_succ, List.length_cons, List.length_nil, Nat.reduceLT, Nat.reduceAdd, Nat.reduceSub, Nat.reduceEqDiff, if_true, if_false, decide_true, decide_false, Option.map_some, Option.map_none, Bool.not_true, Bool.not_false, getK, putK, List.replicate_succ, List.replicate_zero, true_and, and_true, List.isEmpty_nil, List.isEmpty_cons, asRef_ref, setO_list, Option.bind_some, bi_len gC, List.length_map, show ¬ (((2 : Nat) : Int) = 1) by decide, show (((2 : Nat) : Int) = 2) from rfl]
      change onSome (binop .add (.ref S) (.ref h.length) (h ++ [.list [strV (0, (code.length : Int), (code.length : Int))]])) _
      rw [m2, onSome_some]
      refine fin _ _ ?_ kb
      exact wb.sub (.cons_cons _ (.cons _ (.cons_cons _ (.cons _ (List.Sublist.refl _)))))
    · have es : wideS wide (code.length : Int) stx = stx := by unfold wideS; rw [if_neg w1, if_neg w2]
      simp only [fParts_12, fParts_14, wS_skip, wS_seq, wS_expr, wS_asg, wS_if_, wS_while_, wS_for_, wS_ret, wS_raise, wE_none, wE_bool, wE_int, wE_str, wE_loc, wE_glob, wE_bin, wE_not_, wE_cmp, wE_cmp2, wE_and_, wE_or_, wE_ite, wE_tup, wE_lst, wE_dct, wE_idx, wE_slc, wE_attr, wE_call, wE_new, wE_meth, wE_bi, wE_isi, wE_comp, wEs_nil, wEs_cons, wT_loc, wT_attr, wT_idx, wT_unp, wC_nil, wC_cons, onSome_some, isB_bool, cmp_eq, cmp_ne, cmp_lt, cmp_le, cmp_gt, cmp_ge, cmp_is_nn, cmp_is_in, cmp_is_tn, cmp_is_sn, cmp_isn_nn, cmp_isn_in, cmp_isn_tn, cmp_in_t, eqop_int, eqop_str, eqop_nn, eqop_ni, eqop_in, eqop_ns, eqop_sn, bin_add, bin_sub, idx_tup, bi_lent, bi_intb, getL0, getLs, seq0, seq1, seq2, seq3, List.map_cons, List.map_nil, List.cons_append, List.nil_append, List.set_cons_zero, List.set_cons_succ, List.length_cons, List.length_nil, Nat.reduceLT, Nat.reduceAdd, Nat.reduceSub, Nat.reduceEqDiff, if_true, if_false, decide_true, decide_false, Option.map_some, Option.map_none, Bool.not_true, Bool.not_false, getK, putK, List.replicate_succ, List.replicate_zero, true_and, and_true, List.isEmpty_nil, List.isEmpty_cons, asRef_ref, setO_list, Option.bind_some, show ¬ ((wide : Int) = 1) by first | assumption | exact Nat.lt_of_succ_lt (by assumption) | exact Nat.le_of_lt (by assumption) | lia | omega, show ¬ ((wide : Int) = 2) by first | assumption | exact Nat.lt_of_succ_lt (by assumption) | exact Nat.le_of_lt (by assumption) | lia | omega]
      refine fin S h ?_ (Keep.refl _ _)
      rw [es]
      exact w.perm (.swap _ _ _)

omit G in
theorem slc_from {h : Hp} {a : Nat} {xs : List V} {i : Int} (e : h[a]? = some (.list xs)) (hi : 0 ≤ i) : slcop (.ref a) (.int i) .none h = some (.ref h.length, h ++ [.list (xs.drop i.toNat)]) := by
  show ((if 0 ≤ i then some (some i.toNat) else none : Option (Option Nat))).bind (fun l => (some (none : Option Nat)).bind fun u => (((h[a]?).bind O.items).map fun xs => (V.ref h.length, h ++ [O.list (cut xs l u)]))) = _
  rw [if_pos hi, e]; rfl
omit G in
theorem slc_upto {h : Hp} {a : Nat} {xs : List V} {i : Int} (e : h[a]? = some (.list xs)) (hi : 0 ≤ i) : slcop (.ref a) .none (.int i) h = some (.ref h.length, h ++ [.list (xs.take i.toNat)]) := by
  show (some (none : Option Nat)).bind (fun l => ((if 0 ≤ i then some (some i.toNat) else none : Option (Option Nat))).bind fun u => (((h[a]?).bind O.items).map fun xs => (V.ref h.length, h ++ [O.list (cut xs l u)]))) = _
  rw [if_pos hi, e]; rfl

theorem parts_ok {r : Nat} {h : Hp} {P : Par} {wide tn Mk Mo : Nat} {Q : V → Hp → Prop} {X : Nat → Hp → Prop} (hm : 0 < P.m) (hm12 : P.m ≤ 12) (hs : P.s = tn / 3) (hc : P.cnt = tn / 36 % 3) (hw : wide ≤ 2) (hMk : h[Mk]? = some (marksV P)) (hMo : h[Mo]? = some (moreV P))
    (hQ : ∀ C' S' B' h' code stx starts, Inv P P.m code stx starts → h'[C']? = some (.list ((code ++ [Row.say, Row.put 40, Row.back]).map Row.v)) → h'[S']? = some (.list ((wideS wide (code.length : Int) stx).map strV)) → h'[B']? = some (iL starts) → Keep h.length h h' → Q (.tup [.ref C', .ref S', .ref B', .int 1]) h') :
    callWp g (r + 2) 15 [.int P.m, .ref Mk, .bool P.raises, .int (wide : Int), .int (tn : Int), .ref Mo] h Q X := by
  refine call_enter G.f15 rfl (by decide) ?_
  generalize callWp g (r + 1) = C
  generalize callWp g r = N
  show wpS g C N fParts_0 ⟨[some (.int P.m), some (.ref Mk), some (.bool P.raises), some (.int (wide : Int)), some (.int (tn : Int)), some (.ref Mo), none, none, none, none, none], h⟩ _ _ _
  have b3 : (3 : Int) ≠ 0 := by decide
  have e3 : Int.fmod (tn : Int) 3 = ((tn % 3 : Nat) : Int) := fmodN tn 3
  have t3 : tn % 3 < 3 := Nat.mod_lt _ (by decide)
  have w0 : Own h.length h [] := Own.nil (Nat.le_refl _)
  have w1 := w0.alloc (.list ([Row.put 77, Row.say, Row.put 78, Row.back].map Row.v))
  have g1 := w1.get (i := 0) rfl
  have c1 := slc_from g1 (show (0 : Int) ≤ 4 - ((tn % 3 : Nat) : Int) * 2 by first | assumption | exact Nat.lt_of_succ_lt (by assumption) | exact Nat.le_of_lt (by assumption) | lia | omega)
  rw [← List.map_drop] at c1
  have w2 := w1.alloc (.list (([Row.put 77, Row.say, Row.put 78, Row.back].drop (4 - ((tn % 3 : Nat) : Int) * 2).toNat).map Row.v))
  have k2 := ((Keep.refl h.length h).app (Nat.le_refl _) (.list ([Row.put 77, Row.say, Row.put 78, Row.back].map Row.v))).app (Nat.le_refl _) (.list (([Row.put 77, Row.say, Row.put 78, Row.back].drop (4 - ((tn % 3 : Nat) : Int) * 2).toNat).map Row.v))
  have hpl : ([Row.put 77, Row.say, Row.put 78, Row.back].drop (4 - ((tn % 3 : Nat) : Int) * 2).toNat).length ≤ 4 := by rw [List.length_drop]; simp
  generalize [Row.put 77, Row.say, Row.put 78, Row.back].drop (4 - ((tn % 3 : Nat) : Int) * 2).toNat = pre at *
  have w3 := w2.alloc (.list [])
  have w4 := w3.alloc (.list [.int 0])
  have g4 := w4.get (i := 0) rfl
  have m4 := bin_mull (n := (P.m : Int)) g4 ⟨by unfold lim; (first | lia | omega), by simp [lim]; (first | lia | omega)⟩
  rw [Int.toNat_natCast, repL_rep] at m4
  have w5 := w4.alloc (iL (List.replicate P.m 0))
  have k5 := (((k2.app (Nat.le_refl _) (.list [])).app (Nat.le_refl _) (.list [.int 0])).app (Nat.le_refl _) (iL (List.replicate P.m 0)))
  rw [fParts_0, wpS_seq, wS_asg, wE_slc]
  simp only [wE_loc, getLs, getL0, onSome_some, wE_bin, wE_lst, wEs_cons, wEs_nil, wE_tup, wE_str, wE_int, wE_none, bin_mod _ _ _ b3, e3, bin_mul _ _ _ (show small 2 = true from rfl), bin_sub]
  change onSome (slcop (.ref h.length) (.int (4 - ((tn % 3 : Nat) : Int) * 2)) .none (h ++ [.list ([Row.put 77, Row.say, Row.put 78, Row.back].map Row.v)])) _
  rw [c1, onSome_some, wT_loc]
  generalize h ++ [O.list ([Row.put 77, Row.say, Row.put 78, Row.back].map Row.v)] = H1 at *
  simp only [fParts_1, fParts_2, wS_skip, wS_seq, wS_expr, wS_asg, wS_if_, wS_while_, wS_for_, wS_ret, wS_raise, wE_none, wE_bool, wE_int, wE_str, wE_loc, wE_glob, wE_bin, wE_not_, wE_cmp, wE_cmp2, wE_and_, wE_or_, wE_ite, wE_tup, wE_lst, wE_dct, wE_idx, wE_slc, wE_attr, wE_call, wE_new, wE_meth, wE_bi, wE_isi, wE_comp, wEs_nil, wEs_cons, wT_loc, wT_attr, wT_idx, wT_unp, wC_nil, wC_cons, onSome_some, isB_bool, cmp_eq, cmp_ne, cmp_lt, cmp_le, cmp_gt, cmp_ge, cmp_is_nn, cmp_is_in, cmp_is_tn, cmp_is_sn, cmp_isn_nn, cmp_isn_in, cmp_isn_tn, cmp_in_t, eqop_int, eqop_str, eqop_nn, eqop_ni, eqop_in, eqop_ns, eqop_sn, bin_add, bin_sub, idx_tup, bi_lent, bi_intb, getL0, getLs, seq0, seq1, seq2, seq3, List.map_cons, List.map_nil, List.cons_append, List.nil_append, List.set_cons_zero, List.set_cons_succ, List.length_cons, List.length_nil, Nat.reduceLT, Nat.reduceAdd, Nat.reduceSub, Nat.reduceEqDiff, if_true, if_false, decide_true, decide_false, Option.map_some, Option.map_none, Bool.not_true, Bool.not_false, getK, putK, List.replicate_succ, List.replicate_zero, true_and, and_true, List.isEmpty_nil, List.isEmpty_cons, asRef_ref, setO_list, Option.bind_some, m4]
  rw [show O.list (List.replicate P.m (V.int 0)) = iL (List.replicate P.m 0) by simp [iL]]
  have wp := w5.perm (List.reverse_perm _).symm
  have w6 : Own h.length (H1 ++ [O.list (pre.map Row.v)] ++ [O.list []] ++ [O.list [V.int 0]] ++ [iL (List.replicate P.m 0)]) [(H1.length, .list (pre.map Row.v)), ((H1 ++ [O.list (pre.map Row.v)]).length, .list (([] : List (Int × Int × Int)).map strV)), ((H1 ++ [O.list (pre.map Row.v)] ++ [O.list []] ++ [O.list [V.int 0]]).length, iL (List.replicate P.m 0))] :=
    wp.sub (.cons _ (.cons_cons _ (.cons_cons _ (.cons _ (.cons_cons _ (List.Sublist.refl _))))))
  clear w1 w2 w3 w4 w5 wp g1 c1 g4 m4
  generalize (H1 ++ [O.list (pre.map Row.v)] ++ [O.list []] ++ [O.list [V.int 0]]).length = B at *
  generalize (H1 ++ [O.list (pre.map Row.v)]).length = S at *
  generalize H1.length = Cd at *
  generalize H1 ++ [O.list (pre.map Row.v)] ++ [O.list []] ++ [O.list [V.int 0]] ++ [iL (List.replicate P.m 0)] = H5 at *
  rw [fParts_3, wpS_seq, wS_for_]
  simp only [wE_loc, getLs, getL0, onSome_some, it_range (show -1000 ≤ (P.m : Int) ∧ (P.m : Int) ≤ lim by unfold lim; (first | lia | omega)), Int.toNat_natCast]
  refine for_ind (fun xs σ => ∃ (j : Nat) (code : List Row) (stx : List (Int × Int × Int)) (starts : List Int) (Cd' : Nat) (u v : Option V), j ≤ P.m ∧ xs = rangeL (j : Int) (P.m - j) ∧ Inv P j code stx starts ∧ stx.length ≤ j ∧
    σ.loc = [some (.int P.m), some (.ref Mk), some (.bool P.raises), some (.int (wide : Int)), some (.int (tn : Int)), some (.ref Mo), some (.ref Cd'), some (.ref S), some (.ref B), u, v] ∧
    Own h.length σ.hp [(Cd', .list (code.map Row.v)), (S, .list (stx.map strV)), (B, iL starts)] ∧ Keep h.length h σ.hp) ?_ ?_ _ _ ⟨0, pre, [], List.replicate P.m 0, Cd, none, none, Nat.zero_le _, rfl, inv_nil (by simp) hpl, Nat.le_refl _, rfl, w6, k5⟩
  · rintro ⟨l, hp⟩ ⟨j, code, stx, starts, Cd', u, v, j1, j2, I, j4, j5, w7, k7⟩
    dsimp only at j5 w7 k7 ⊢
    subst j5
    refine ⟨trivial, ?_⟩
    have ej : j = P.m := by
      cases hq : P.m - j with
      | zero => omega
      | succ q => rw [hq] at j2; cases j2
    subst ej
    have hsz := I.size
    exact fin_parts G w7 (by first | assumption | exact Nat.lt_of_succ_lt (by assumption) | exact Nat.le_of_lt (by assumption) | lia | omega) (by first | assumption | exact Nat.lt_of_succ_lt (by assumption) | exact Nat.le_of_lt (by assumption) | lia | omega) hw fun C' S' h' z1 z2 z3 z4 => hQ C' S' B h' code stx starts I z1 z2 z3 (k7.trans z4)
  · rintro x xs ⟨l, hp⟩ K ⟨j, code, stx, starts, Cd', u, v, j1, j2, I, j4, j5, w7, k7⟩ hK
    dsimp only at j5 w7 k7 ⊢
    subst j5
    refine ⟨trivial, ?_⟩
    have hjm : j < P.m := by
      rcases Nat.lt_or_ge j P.m with q | q
      · exact q
      · rw [show P.m - j = 0 by first | assumption | exact Nat.lt_of_succ_lt (by assumption) | exact Nat.le_of_lt (by assumption) | lia | omega] at j2; cases j2
    rw [show P.m - j = (P.m - (j + 1)) + 1 by first | assumption | exact Nat.lt_of_succ_lt (by assumption) | exact Nat.le_of_lt (by assumption) | lia | omega, rangeL] at j2
    cases j2
    have hsz := I.size
    have I' := inv_step (P := P) (by first | assumption | exact Nat.lt_of_succ_lt (by assumption) | exact Nat.le_of_lt (by assumption) | lia | omega) hjm I
    have kk : (j + P.s) % P.m < P.m := Nat.mod_lt _ hm
    have bm : (P.m : Int) ≠ 0 := by first | assumption | exact Nat.lt_of_succ_lt (by assumption) | exact Nat.le_of_lt (by assumption) | lia | omega
    have ed : Int.fdiv (tn : Int) 3 = ((tn / 3 : Nat) : Int) := fdivN tn 3 (by decide)
    rw [← hs] at ed
    have ek : Int.fmod ((j : Int) + (P.s : Int)) (P.m : Int) = (((j + P.s) % P.m : Nat) : Int) := by
      rw [← Int.natCast_add]; exact fmodN _ _
    have gC := w7.get (i := 0) rfl
    have gB : hp[B]? = some (.list (starts.map .int)) := w7.get (i := 2) rfl
    generalize hke : (j + P.s) % P.m = k at *
    have hst : setAt (starts.map V.int) (k : Int) (.int (code.length : Int)) = some ((starts.map V.int).set k (.int (code.length : Int))) := by
      unfold setAt; rw [if_pos (by rw [List.length_map, I.len]; (first | lia | omega)), Int.toNat_natCast]
    have es : O.list ((starts.map V.int).set k (.int (code.length : Int))) = iL (starts.set k (code.length : Int)) := by simp only [iL, List.map_set]
    have w8 := w7.set 2 rfl (iL (starts.set k (code.length : Int)))
    have k8 := k7.set (w7.geq (i := 2) rfl) (iL (starts.set k (code.length : Int)))
    simp only [bindT, fParts_4, fParts_5, wS_skip, wS_seq, wS_expr, wS_asg, wS_if_, wS_while_, wS_for_, wS_ret, wS_raise, wE_none, wE_bool, wE_int, wE_str, wE_loc, wE_glob, wE_bin, wE_not_, wE_cmp, wE_cmp2, wE_and_, wE_or_, wE_ite, wE_tup, wE_lst, wE_dct, wE_idx, wE_slc, wE_attr, wE_call, wE_new, wE_meth, wE_bi, wE_isi, wE_comp, wEs_nil, wEs_cons, wT_loc, wT_attr, wT_idx, wT_unp, wC_nil, wC_cons, onSome_some, isB_bool, cmp_eq, cmp_ne, cmp_lt, cmp_le, cmp_gt, cmp_ge, cmp_is_nn, cmp_is_in, cmp_is_tn, cmp_is_sn, cmp_isn_nn, cmp_isn_in, cmp_isn_tn, cmp_in_t, eqop_int, eqop_str, eqop_nn, eqop_ni, eqop_in, eqop_ns, eqop_sn, bin_add, bin_sub, idx_tup, bi_lent, bi_intb, getL0, getLs, seq0, seq1, seq2, seq3, List.map_cons, List.map_nil, List.cons_append, List.nil_append, List.set_cons_zero, List.set_cons_succ, List.length_cons, List.length_nil, Nat.reduceLT, Nat.reduceAdd, Nat.reduceSub, Nat.reduceEqDiff, if_true, if_false, decide_true, decide_false, Option.map_some, Option.map_none, Bool.not_true, Bool.not_false, getK, putK, List.replicate_succ, List.replicate_zero, true_and, and_true, List.isEmpty_nil, List.isEmpty_cons, asRef_ref, setO_list, Option.bind_some, bin_div _ _ _ b3, ed, bin_mod _ _ _ bm, ek, bi_len gC, List.length_map, gB, hst, es]
    have nx : ∀ s : Nat → Prop, ((j : Int) + 1) = ((j + 1 : Nat) : Int) := fun _ => by first | assumption | exact Nat.lt_of_succ_lt (by assumption) | exact Nat.le_of_lt (by assumption) | lia | omega
    by_cases hl : k + 1 = P.m
    · have hc1 : (k : Int) = (P.m : Int) - 1 := by first | assumption | exact Nat.lt_of_succ_lt (by assumption) | exact Nat.le_of_lt (by assumption) | lia | omega
      rw [if_neg (by first | assumption | exact Nat.lt_of_succ_lt (by assumption) | exact Nat.le_of_lt (by assumption) | lia | omega), blk_last hl] at I'
      simp only [fParts_6, wS_skip, wS_seq, wS_expr, wS_asg, wS_if_, wS_while_, wS_for_, wS_ret, wS_raise, wE_none, wE_bool, wE_int, wE_str, wE_loc, wE_glob, wE_bin, wE_not_, wE_cmp, wE_cmp2, wE_and_, wE_or_, wE_ite, wE_tup, wE_lst, wE_dct, wE_idx, wE_slc, wE_attr, wE_call, wE_new, wE_meth, wE_bi, wE_isi, wE_comp, wEs_nil, wEs_cons, wT_loc, wT_attr, wT_idx, wT_unp, wC_nil, wC_cons, onSome_some, isB_bool, cmp_eq, cmp_ne, cmp_lt, cmp_le, cmp_gt, cmp_ge, cmp_is_nn, cmp_is_in, cmp_is_tn, cmp_is_sn, cmp_isn_nn, cmp_isn_in, cmp_isn_tn, cmp_in_t, eqop_int, eqop_str, eqop_nn, eqop_ni, eqop_in, eqop_ns, eqop_sn, bin_add, bin_sub, idx_tup, bi_lent, bi_intb, getL0, getLs, seq0, seq1, seq2, seq3, List.map_cons, List.map_nil, List.cons_append, List.nil_append, List.set_cons_zero, List.set_cons_succ, List.length_cons, List.length_nil, Nat.reduceLT, Nat.reduceAdd, Nat.reduceSub, Nat.reduceEqDiff, if_true, if_false, decide_true, decide_false, Option.map_some, Option.map_none, Bool.not_true, Bool.not_false, getK, putK, List.replicate_succ, List.replicate_zero, true_and, and_true, List.isEmpty_nil, List.isEmpty_cons, asRef_ref, setO_list, Option.bind_some, hc1]
      refine last_blk G w8 (by first | assumption | exact Nat.lt_of_succ_lt (by assumption) | exact Nat.le_of_lt (by assumption) | lia | omega) hc fun Cd2 h2 z1 z2 => ?_
      exact hK _ ⟨j + 1, _, _, _, Cd2, _, _, by first | assumption | exact Nat.lt_of_succ_lt (by assumption) | exact Nat.le_of_lt (by assumption) | lia | omega, by rw [nx (fun _ => True)], I', by first | assumption | exact Nat.lt_of_succ_lt (by assumption) | exact Nat.le_of_lt (by assumption) | lia | omega, rfl, z1, k8.trans z2⟩
    · have hc1 : ¬ (k : Int) = (P.m : Int) - 1 := by first | assumption | exact Nat.lt_of_succ_lt (by assumption) | exact Nat.le_of_lt (by assumption) | lia | omega
      rw [blk_mid (by first | assumption | exact Nat.lt_of_succ_lt (by assumption) | exact Nat.le_of_lt (by assumption) | lia | omega)] at I'
      simp only [fParts_6, wS_skip, wS_seq, wS_expr, wS_asg, wS_if_, wS_while_, wS_for_, wS_ret, wS_raise, wE_none, wE_bool, wE_int, wE_str, wE_loc, wE_glob, wE_bin, wE_not_, wE_cmp, wE_cmp2, wE_and_, wE_or_, wE_ite, wE_tup, wE_lst, wE_dct, wE_idx, wE_slc, wE_attr, wE_call, wE_new, wE_meth, wE_bi, wE_isi, wE_comp, wEs_nil, wEs_cons, wT_loc, wT_attr, wT_idx, wT_unp, wC_nil, wC_cons, onSome_some, isB_bool, cmp_eq, cmp_ne, cmp_lt, cmp_le, cmp_gt, cmp_ge, cmp_is_nn, cmp_is_in, cmp_is_tn, cmp_is_sn, cmp_isn_nn, cmp_isn_in, cmp_isn_tn, cmp_in_t, eqop_int, eqop_str, eqop_nn, eqop_ni, eqop_in, eqop_ns, eqop_sn, bin_add, bin_sub, idx_tup, bi_lent, bi_intb, getL0, getLs, seq0, seq1, seq2, seq3, List.map_cons, List.map_nil, List.cons_append, List.nil_append, List.set_cons_zero, List.set_cons_succ, List.length_cons, List.length_nil, Nat.reduceLT, Nat.reduceAdd, Nat.reduceSub, Nat.reduceEqDiff, if_true, if_false, decide_true, decide_false, Option.map_some, Option.map_none, Bool.not_true, Bool.not_false, getK, putK, List.replicate_succ, List.replicate_zero, true_and, and_true, List.isEmpty_nil, List.isEmpty_cons, asRef_ref, setO_list, Option.bind_some, hc1]
      refine mid_blk G w8 kk (by first | assumption | exact Nat.lt_of_succ_lt (by assumption) | exact Nat.le_of_lt (by assumption) | lia | omega) (by first | assumption | exact Nat.lt_of_succ_lt (by assumption) | exact Nat.le_of_lt (by assumption) | lia | omega) ((k8.2 _ (get_lt hMk)).trans hMk) (get_lt hMk) ((k8.2 _ (get_lt hMo)).trans hMo) (get_lt hMo) fun Cd2 h2 z1 z2 => ?_
      have e2 : (if k + 1 < P.m ∧ P.mar k = true then stx ++ [((code.length : Int), (code.length : Int) + 3, (code.length : Int) + 5)] else stx) = (if P.mar k = true then stx ++ [((code.length : Int), (code.length : Int) + 3, (code.length : Int) + 5)] else stx) := by
        by_cases q : P.mar k = true
        · rw [if_pos q, if_pos ⟨by first | assumption | exact Nat.lt_of_succ_lt (by assumption) | exact Nat.le_of_lt (by assumption) | lia | omega, q⟩]
        · rw [if_neg q, if_neg (fun z => q z.2)]
      rw [e2] at I'
      refine hK _ ⟨j + 1, _, _, _, Cd2, _, _, by first | assumption | exact Nat.lt_of_succ_lt (by assumption) | exact Nat.le_of_lt (by assumption) | lia | omega, by rw [nx (fun _ => True)], I', ?_, rfl, z1, k8.trans z2⟩
      split
      · rw [List.length_append]; simp; (first | lia | omega)
      · omega

omit G in
theorem sumL_snoc (y : Int) : ∀ (xs : List V) (i : Int), sumL xs = some i → sumL (xs ++ [.int y]) = some (i + y)
  | [], i, h => by cases h; simp [sumL]
  | x :: xs, i, h => by
    cases x with
    | int z =>
      obtain ⟨j, h1, h2⟩ := map_some' (show (sumL xs).map (z + ·) = some i from h)
      subst h2
      show (sumL (xs ++ [.int y])).map (z + ·) = _
      rw [sumL_snoc y xs j h1, Option.map_some]
      congr 1; (first | lia | omega)
    | _ => cases h
omit G in
theorem sumL_range (mo : Nat → Int) : ∀ k, sumL ((List.range k).map fun k => V.int (mo k)) = some (sumTo mo k)
  | 0 => rfl
  | k + 1 => by
    rw [List.range_succ, List.map_append, List.map_cons, List.map_nil, sumTo]
    exact sumL_snoc _ _ _ (sumL_range mo k)
omit G in
theorem bi_sum {h : Hp} {a : Nat} {xs : List V} {i : Int} (e : h[a]? = some (.list xs)) (es : sumL xs = some i) : biop .sum [.ref a] h = some (.int i, h) := by
  show ((h[a]?).bind O.asL).bind (fun xs => (sumL xs).map fun i => (V.int i, h)) = _
  rw [e]
  show (sumL xs).map _ = _
  rw [es]; rfl
omit G in
theorem more_sum {P : Par} {h : Hp} {Mo k : Nat} (hMo : h[Mo]? = some (moreV P)) (hk : k ≤ P.m) : slcop (.ref Mo) .none (.int (k : Int)) h = some (.ref h.length, h ++ [.list ((List.range k).map fun k => .int (P.mo k))]) ∧
    biop .sum [.ref h.length] (h ++ [.list ((List.range k).map fun k => .int (P.mo k))]) = some (.int (sumTo P.mo k), h ++ [.list ((List.range k).map fun k => .int (P.mo k))]) := by
  have gMo : h[Mo]? = some (.list ((List.range P.m).map fun k => .int (P.mo k))) := hMo
  constructor
  · rw [slc_upto gMo (by first | assumption | exact Nat.lt_of_succ_lt (by assumption) | exact Nat.le_of_lt (by assumption) | lia | omega), Int.toNat_natCast, ← List.map_take, List.take_range, Nat.min_eq_left hk]
  · exact bi_sum (by simp) (sumL_range P.mo k)
omit G in
theorem rangeL_last : ∀ (n : Nat) (lo : Int), rangeL lo (n + 1) = rangeL lo n ++ [.int (lo + n)]
  | 0, lo => by simp [rangeL]
  | n + 1, lo => by
    rw [rangeL, rangeL_last n (lo + 1), rangeL, List.cons_append]
    congr 4
    omega
omit G in
theorem it_rev {n : Int} {h : Hp} (e : -1000 ≤ n ∧ n ≤ lim) : itop .revRange (.int n) h = some ((rangeL 0 n.toNat).reverse, fun _ => True) := by
  show (itop .range (.int n) h).map (fun p => (p.1.reverse, p.2)) = _
  rw [it_range e]; rfl
omit G in
theorem bi_min (a b : Int) (h : Hp) : biop .min [.int a, .int b] h = some (.int (if b < a then b else a), h) := rfl

theorem due_ok {r : Nat} {h : Hp} {P : Par} {wide Mk Mo : Nat} {n : Int} {Q : V → Hp → Prop} {X : Nat → Hp → Prop} (hm : 0 < P.m) (hm12 : P.m ≤ 12) (hw : wide ≤ 2) (hMk : h[Mk]? = some (marksV P)) (hMo : h[Mo]? = some (moreV P))
    (hQ : ∀ a h', h'[a]? = some (iL (dueOf P.m P.mar P.raises n wide P.mo).1) → Keep h.length h h' → Q (.tup [.ref a, .str (dueOf P.m P.mar P.raises n wide P.mo).2.1, .int (dueOf P.m P.mar P.raises n wide P.mo).2.2]) h') :
    callWp g (r + 2) 16 [.int P.m, .ref Mk, .bool P.raises, .int n, .int (wide : Int), .ref Mo] h Q X := by
  refine call_enter G.f16 rfl (by decide) ?_
  generalize callWp g (r + 1) = C
  generalize callWp g r = N
  show wpS g C N fDue_0 ⟨[some (.int P.m), some (.ref Mk), some (.bool P.raises), some (.int n), some (.int (wide : Int)), some (.ref Mo), none, none, none, none], h⟩ _ _ _
  have gMk : h[Mk]? = some (.list ((List.range P.m).map fun k => .bool (P.mar k))) := hMk
  have ap : ∀ o, (h ++ [o])[Mo]? = some (moreV P) := fun o => by rw [List.getElem?_append_left (get_lt hMo)]; exact hMo
  have kk : ∀ o1 o2, Keep h.length h (h ++ [o1] ++ [o2]) := fun o1 o2 => ((Keep.refl _ h).app (Nat.le_refl _) o1).app (Nat.le_refl _) o2
  have at0 : ∀ o1 o2 : O, (h ++ [o1] ++ [o2])[h.length]? = some o1 := fun o1 o2 => by rw [List.getElem?_append_left (by simp)]; simp
  by_cases c0 : P.m ≤ 8 ∧ P.raises = false
  · have hd : dueOf P.m P.mar P.raises n wide P.mo = ([], 34, n + sumTo P.mo (P.m - 1)) := by unfold dueOf; rw [if_pos c0]
    rw [hd] at hQ
    obtain ⟨s1, s2⟩ := more_sum (k := P.m - 1) (ap (.list [])) (by first | assumption | exact Nat.lt_of_succ_lt (by assumption) | exact Nat.le_of_lt (by assumption) | lia | omega)
    have e1 : (P.m : Int) - 1 = ((P.m - 1 : Nat) : Int) := by first | assumption | exact Nat.lt_of_succ_lt (by assumption) | exact Nat.le_of_lt (by assumption) | lia | omega
    simp only [fDue_0, fDue_1, wS_skip, wS_seq, wS_expr, wS_asg, wS_if_, wS_while_, wS_for_, wS_ret, wS_raise, wE_none, wE_bool, wE_int, wE_str, wE_loc, wE_glob, wE_bin, wE_not_, wE_cmp, wE_cmp2, wE_and_, wE_or_, wE_ite, wE_tup, wE_lst, wE_dct, wE_idx, wE_slc, wE_attr, wE_call, wE_new, wE_meth, wE_bi, wE_isi, wE_comp, wEs_nil, wEs_cons, wT_loc, wT_attr, wT_idx, wT_unp, wC_nil, wC_cons, onSome_some, isB_bool, cmp_eq, cmp_ne, cmp_lt, cmp_le, cmp_gt, cmp_ge, cmp_is_nn, cmp_is_in, cmp_is_tn, cmp_is_sn, cmp_isn_nn, cmp_isn_in, cmp_isn_tn, cmp_in_t, eqop_int, eqop_str, eqop_nn, eqop_ni, eqop_in, eqop_ns, eqop_sn, bin_add, bin_sub, idx_tup, bi_lent, bi_intb, getL0, getLs, seq0, seq1, seq2, seq3, List.map_cons, List.map_nil, List.cons_append, List.nil_append, List.set_cons_zero, List.set_cons_succ, List.length_cons, List.length_nil, Nat.reduceLT, Nat.reduceAdd, Nat.reduceSub, Nat.reduceEqDiff, if_true, if_false, decide_true, decide_false, Option.map_some, Option.map_none, Bool.not_true, Bool.not_false, getK, putK, List.replicate_succ, List.replicate_zero, true_and, and_true, List.isEmpty_nil, List.isEmpty_cons, asRef_ref, setO_list, Option.bind_some, show ((P.m : Int) ≤ 8) from by first | assumption | exact Nat.lt_of_succ_lt (by assumption) | exact Nat.le_of_lt (by assumption) | lia | omega, c0.2, e1, s1, s2]
    exact hQ _ _ (at0 _ _) (kk _ _)
  · have tail : wpS g C N fDue_2 ⟨[some (.int P.m), some (.ref Mk), some (.bool P.raises), some (.int n), some (.int (wide : Int)), some (.ref Mo), none, none, none, none], h⟩ (fun σ => Q .none σ.hp) Q X := by
      have num : ∀ u : Int, u = (if 8 < P.m then 102 else n) → wpS g C N fDue_3 ⟨[some (.int P.m), some (.ref Mk), some (.bool P.raises), some (.int n), some (.int (wide : Int)), some (.ref Mo), some (.int u), none, none, none], h⟩ (fun σ => Q .none σ.hp) Q X := by
        intro u hu
        have e8 : (if (8 : Int) < (P.m : Int) then (8 : Int) else (P.m : Int)) - 1 = ((min P.m 8 - 1 : Nat) : Int) := by
          split <;> (first | lia | omega)
        simp only [fDue_3, wS_skip, wS_seq, wS_expr, wS_asg, wS_if_, wS_while_, wS_for_, wS_ret, wS_raise, wE_none, wE_bool, wE_int, wE_str, wE_loc, wE_glob, wE_bin, wE_not_, wE_cmp, wE_cmp2, wE_and_, wE_or_, wE_ite, wE_tup, wE_lst, wE_dct, wE_idx, wE_slc, wE_attr, wE_call, wE_new, wE_meth, wE_bi, wE_isi, wE_comp, wEs_nil, wEs_cons, wT_loc, wT_attr, wT_idx, wT_unp, wC_nil, wC_cons, onSome_some, isB_bool, cmp_eq, cmp_ne, cmp_lt, cmp_le, cmp_gt, cmp_ge, cmp_is_nn, cmp_is_in, cmp_is_tn, cmp_is_sn, cmp_isn_nn, cmp_isn_in, cmp_isn_tn, cmp_in_t, eqop_int, eqop_str, eqop_nn, eqop_ni, eqop_in, eqop_ns, eqop_sn, bin_add, bin_sub, idx_tup, bi_lent, bi_intb, getL0, getLs, seq0, seq1, seq2, seq3, List.map_cons, List.map_nil, List.cons_append, List.nil_append, List.set_cons_zero, List.set_cons_succ, List.length_cons, List.length_nil, Nat.reduceLT, Nat.reduceAdd, Nat.reduceSub, Nat.reduceEqDiff, if_true, if_false, decide_true, decide_false, Option.map_some, Option.map_none, Bool.not_true, Bool.not_false, getK, putK, List.replicate_succ, List.replicate_zero, true_and, and_true, List.isEmpty_nil, List.isEmpty_cons, asRef_ref, setO_list, Option.bind_some, bi_min, e8]
        by_cases w0 : 0 < wide
        · obtain ⟨s1, s2⟩ := more_sum (k := min P.m 8 - 1) (ap (.list [.int u])) (by first | assumption | exact Nat.lt_of_succ_lt (by assumption) | exact Nat.le_of_lt (by assumption) | lia | omega)
          have hd : dueOf P.m P.mar P.raises n wide P.mo = ([u], 34, (if 8 < P.m ∧ P.mar 7 = true ∧ wide = 2 then 57 else 40) + sumTo P.mo (min P.m 8 - 1)) := by unfold dueOf; rw [if_neg c0, if_pos w0, ← hu]
          rw [hd] at hQ
          have fin : ∀ bb : Bool, (bb = true ↔ (8 < P.m ∧ P.mar 7 = true ∧ wide = 2)) → wpS g C N fDue_6 ⟨[some (.int P.m), some (.ref Mk), some (.bool P.raises), some (.int n), some (.int (wide : Int)), some (.ref Mo), some (.int u), some (.int ((min P.m 8 - 1 : Nat) : Int)), some (.bool bb), none], h⟩ (fun σ => Q .none σ.hp) Q X := by
            intro bb hb
            cases bb with
            | true =>
              rw [if_pos (hb.mp rfl)] at hQ
              simp only [fDue_6, wS_skip, wS_seq, wS_expr, wS_asg, wS_if_, wS_while_, wS_for_, wS_ret, wS_raise, wE_none, wE_bool, wE_int, wE_str, wE_loc, wE_glob, wE_bin, wE_not_, wE_cmp, wE_cmp2, wE_and_, wE_or_, wE_ite, wE_tup, wE_lst, wE_dct, wE_idx, wE_slc, wE_attr, wE_call, wE_new, wE_meth, wE_bi, wE_isi, wE_comp, wEs_nil, wEs_cons, wT_loc, wT_attr, wT_idx, wT_unp, wC_nil, wC_cons, onSome_some, isB_bool, cmp_eq, cmp_ne, cmp_lt, cmp_le, cmp_gt, cmp_ge, cmp_is_nn, cmp_is_in, cmp_is_tn, cmp_is_sn, cmp_isn_nn, cmp_isn_in, cmp_isn_tn, cmp_in_t, eqop_int, eqop_str, eqop_nn, eqop_ni, eqop_in, eqop_ns, eqop_sn, bin_add, bin_sub, idx_tup, bi_lent, bi_intb, getL0, getLs, seq0, seq1, seq2, seq3, List.map_cons, List.map_nil, List.cons_append, List.nil_append, List.set_cons_zero, List.set_cons_succ, List.length_cons, List.length_nil, Nat.reduceLT, Nat.reduceAdd, Nat.reduceSub, Nat.reduceEqDiff, if_true, if_false, decide_true, decide_false, Option.map_some, Option.map_none, Bool.not_true, Bool.not_false, getK, putK, List.replicate_succ, List.replicate_zero, true_and, and_true, List.isEmpty_nil, List.isEmpty_cons, asRef_ref, setO_list, Option.bind_some, s1, s2]
              exact hQ _ _ (at0 _ _) (kk _ _)
            | false =>
              rw [if_neg (fun z => by have := hb.mpr z; cases this)] at hQ
              simp only [fDue_6, wS_skip, wS_seq, wS_expr, wS_asg, wS_if_, wS_while_, wS_for_, wS_ret, wS_raise, wE_none, wE_bool, wE_int, wE_str, wE_loc, wE_glob, wE_bin, wE_not_, wE_cmp, wE_cmp2, wE_and_, wE_or_, wE_ite, wE_tup, wE_lst, wE_dct, wE_idx, wE_slc, wE_attr, wE_call, wE_new, wE_meth, wE_bi, wE_isi, wE_comp, wEs_nil, wEs_cons, wT_loc, wT_attr, wT_idx, wT_unp, wC_nil, wC_cons, onSome_some, isB_bool, cmp_eq, cmp_ne, cmp_lt, cmp_le, cmp_gt, cmp_ge, cmp_is_nn, cmp_is_in, cmp_is_tn, cmp_is_sn, cmp_isn_nn, cmp_isn_in, cmp_isn_tn, cmp_in_t, eqop_int, eqop_str, eqop_nn, eqop_ni, eqop_in, eqop_ns, eqop_sn, bin_add, bin_sub, idx_tup, bi_lent, bi_intb, getL0, getLs, seq0, seq1, seq2, seq3, List.map_cons, List.map_nil, List.cons_append, List.nil_append, List.set_cons_zero, List.set_cons_succ, List.length_cons, List.length_nil, Nat.reduceLT, Nat.reduceAdd, Nat.reduceSub, Nat.reduceEqDiff, if_true, if_false, decide_true, decide_false, Option.map_some, Option.map_none, Bool.not_true, Bool.not_false, getK, putK, List.replicate_succ, List.replicate_zero, true_and, and_true, List.isEmpty_nil, List.isEmpty_cons, asRef_ref, setO_list, Option.bind_some, s1, s2]
              exact hQ _ _ (at0 _ _) (kk _ _)
          have w0' : (0 : Int) < (wide : Int) := by first | assumption | exact Nat.lt_of_succ_lt (by assumption) | exact Nat.le_of_lt (by assumption) | lia | omega
          by_cases c8 : (8 : Int) < (P.m : Int)
          · have r7 := range_at (α := V) (f := fun k => V.bool (P.mar k)) (show 7 < P.m by first | assumption | exact Nat.lt_of_succ_lt (by assumption) | exact Nat.le_of_lt (by assumption) | lia | omega)
            cases h7 : P.mar 7 with
            | false =>
              rw [h7] at r7
              simp only [fDue_4, fDue_5, wS_skip, wS_seq, wS_expr, wS_asg, wS_if_, wS_while_, wS_for_, wS_ret, wS_raise, wE_none, wE_bool, wE_int, wE_str, wE_loc, wE_glob, wE_bin, wE_not_, wE_cmp, wE_cmp2, wE_and_, wE_or_, wE_ite, wE_tup, wE_lst, wE_dct, wE_idx, wE_slc, wE_attr, wE_call, wE_new, wE_meth, wE_bi, wE_isi, wE_comp, wEs_nil, wEs_cons, wT_loc, wT_attr, wT_idx, wT_unp, wC_nil, wC_cons, onSome_some, isB_bool, cmp_eq, cmp_ne, cmp_lt, cmp_le, cmp_gt, cmp_ge, cmp_is_nn, cmp_is_in, cmp_is_tn, cmp_is_sn, cmp_isn_nn, cmp_isn_in, cmp_isn_tn, cmp_in_t, eqop_int, eqop_str, eqop_nn, eqop_ni, eqop_in, eqop_ns, eqop_sn, bin_add, bin_sub, idx_tup, bi_lent, bi_intb, getL0, getLs, seq0, seq1, seq2, seq3, List.map_cons, List.map_nil, List.cons_append, List.nil_append, List.set_cons_zero, List.set_cons_succ, List.length_cons, List.length_nil, Nat.reduceLT, Nat.reduceAdd, Nat.reduceSub, Nat.reduceEqDiff, if_true, if_false, decide_true, decide_false, Option.map_some, Option.map_none, Bool.not_true, Bool.not_false, getK, putK, List.replicate_succ, List.replicate_zero, true_and, and_true, List.isEmpty_nil, List.isEmpty_cons, asRef_ref, setO_list, Option.bind_some, w0', c8, ix_list gMk, show (7 : Int) = ((7 : Nat) : Int) from rfl, r7]
              exact fin false ⟨fun z => (by cases z), fun z => by rw [h7] at z; cases z.2.1⟩
            | true =>
              rw [h7] at r7
              by_cases w2 : (wide : Int) = 2
              · simp only [fDue_4, fDue_5, wS_skip, wS_seq, wS_expr, wS_asg, wS_if_, wS_while_, wS_for_, wS_ret, wS_raise, wE_none, wE_bool, wE_int, wE_str, wE_loc, wE_glob, wE_bin, wE_not_, wE_cmp, wE_cmp2, wE_and_, wE_or_, wE_ite, wE_tup, wE_lst, wE_dct, wE_idx, wE_slc, wE_attr, wE_call, wE_new, wE_meth, wE_bi, wE_isi, wE_comp, wEs_nil, wEs_cons, wT_loc, wT_attr, wT_idx, wT_unp, wC_nil, wC_cons, onSome_some, isB_bool, cmp_eq, cmp_ne, cmp_lt, cmp_le, cmp_gt, cmp_ge, cmp_is_nn, cmp_is_in, cmp_is_tn, cmp_is_sn, cmp_isn_nn, cmp_isn_in, cmp_isn_tn, cmp_in_t, eqop_int, eqop_str, eqop_nn, eqop_ni, eqop_in, eqop_ns, eqop_sn, bin_add, bin_sub, idx_tup, bi_lent, bi_intb, getL0, getLs, seq0, seq1, seq2, seq3, List.map_cons, List.map_nil, List.cons_append, List.nil_append, List.set_cons_zero, List.set_cons_succ, List.length_cons, List.length_nil, Nat.reduceLT, Nat.reduceAdd, Nat.reduceSub, Nat.reduceEqDiff, if_true, if_false, decide_true, decide_false, Option.map_some, Option.map_none, Bool.not_true, Bool.not_false, getK, putK, List.replicate_succ, List.replicate_zero, true_and, and_true, List.isEmpty_nil, List.isEmpty_cons, asRef_ref, setO_list, Option.bind_some, w0', c8, ix_list gMk, show (7 : Int) = ((7 : Nat) : Int) from rfl, r7, w2]
                have := fin true ⟨fun _ => ⟨by first | assumption | exact Nat.lt_of_succ_lt (by assumption) | exact Nat.le_of_lt (by assumption) | lia | omega, h7, by first | assumption | exact Nat.lt_of_succ_lt (by assumption) | exact Nat.le_of_lt (by assumption) | lia | omega⟩, fun _ => rfl⟩
                rw [w2] at this
                exact this
              · simp only [fDue_4, fDue_5, wS_skip, wS_seq, wS_expr, wS_asg, wS_if_, wS_while_, wS_for_, wS_ret, wS_raise, wE_none, wE_bool, wE_int, wE_str, wE_loc, wE_glob, wE_bin, wE_not_, wE_cmp, wE_cmp2, wE_and_, wE_or_, wE_ite, wE_tup, wE_lst, wE_dct, wE_idx, wE_slc, wE_attr, wE_call, wE_new, wE_meth, wE_bi, wE_isi, wE_comp, wEs_nil, wEs_cons, wT_loc, wT_attr, wT_idx, wT_unp, wC_nil, wC_cons, onSome_some, isB_bool, cmp_eq, cmp_ne, cmp_lt, cmp_le, cmp_gt, cmp_ge, cmp_is_nn, cmp_is_in, cmp_is_tn, cmp_is_sn, cmp_isn_nn, cmp_isn_in, cmp_isn_tn, cmp_in_t, eqop_int, eqop_str, eqop_nn, eqop_ni, eqop_in, eqop_ns, eqop_sn, bin_add, bin_sub, idx_tup, bi_lent, bi_intb, getL0, getLs, seq0, seq1, seq2, seq3, List.map_cons, List.map_nil, List.cons_append, List.nil_append, List.set_cons_zero, List.set_cons_succ, List.length_cons, List.length_nil, Nat.reduceLT, Nat.reduceAdd, Nat.reduceSub, Nat.reduceEqDiff, if_true, if_false, decide_true, decide_false, Option.map_some, Option.map_none, Bool.not_true, Bool.not_false, getK, putK, List.replicate_succ, List.replicate_zero, true_and, and_true, List.isEmpty_nil, List.isEmpty_cons, asRef_ref, setO_list, Option.bind_some, w0', c8, ix_list gMk, show (7 : Int) = ((7 : Nat) : Int) from rfl, r7, w2]
                exact fin false ⟨fun z => (by cases z), fun z => (w2 (by first | assumption | exact Nat.lt_of_succ_lt (by assumption) | exact Nat.le_of_lt (by assumption) | lia | omega)).elim⟩
          · simp only [fDue_4, fDue_5, wS_skip, wS_seq, wS_expr, wS_asg, wS_if_, wS_while_, wS_for_, wS_ret, wS_raise, wE_none, wE_bool, wE_int, wE_str, wE_loc, wE_glob, wE_bin, wE_not_, wE_cmp, wE_cmp2, wE_and_, wE_or_, wE_ite, wE_tup, wE_lst, wE_dct, wE_idx, wE_slc, wE_attr, wE_call, wE_new, wE_meth, wE_bi, wE_isi, wE_comp, wEs_nil, wEs_cons, wT_loc, wT_attr, wT_idx, wT_unp, wC_nil, wC_cons, onSome_some, isB_bool, cmp_eq, cmp_ne, cmp_lt, cmp_le, cmp_gt, cmp_ge, cmp_is_nn, cmp_is_in, cmp_is_tn, cmp_is_sn, cmp_isn_nn, cmp_isn_in, cmp_isn_tn, cmp_in_t, eqop_int, eqop_str, eqop_nn, eqop_ni, eqop_in, eqop_ns, eqop_sn, bin_add, bin_sub, idx_tup, bi_lent, bi_intb, getL0, getLs, seq0, seq1, seq2, seq3, List.map_cons, List.map_nil, List.cons_append, List.nil_append, List.set_cons_zero, List.set_cons_succ, List.length_cons, List.length_nil, Nat.reduceLT, Nat.reduceAdd, Nat.reduceSub, Nat.reduceEqDiff, if_true, if_false, decide_true, decide_false, Option.map_some, Option.map_none, Bool.not_true, Bool.not_false, getK, putK, List.replicate_succ, List.replicate_zero, true_and, and_true, List.isEmpty_nil, List.isEmpty_cons, asRef_ref, setO_list, Option.bind_some, w0', c8]
            exact fin false ⟨fun z => (by cases z), fun z => (c8 (by first | assumption | exact Nat.lt_of_succ_lt (by assumption) | exact Nat.le_of_lt (by assumption) | lia | omega)).elim⟩
        · have hd : dueOf P.m P.mar P.raises n wide P.mo = (match lastMark P.mar (min (P.m - 1) 8) with | some k => ([u], 34, 50 + (k : Int) + sumTo P.mo k) | none => ([], 13, u)) := by
            unfold dueOf; rw [if_neg c0, if_neg w0, ← hu]
            all_goals (cases lastMark P.mar (min (P.m - 1) 8) <;> rfl)
          rw [hd] at hQ
          have w0' : ¬ (0 : Int) < (wide : Int) := by first | assumption | exact Nat.lt_of_succ_lt (by assumption) | exact Nat.le_of_lt (by assumption) | lia | omega
          have e9 : (if (8 : Int) < (P.m : Int) - 1 then (8 : Int) else (P.m : Int) - 1) = ((min (P.m - 1) 8 : Nat) : Int) := by split <;> (first | lia | omega)
          simp only [fDue_4, fDue_7, wS_skip, wS_seq, wS_expr, wS_asg, wS_if_, wS_while_, wS_for_, wS_ret, wS_raise, wE_none, wE_bool, wE_int, wE_str, wE_loc, wE_glob, wE_bin, wE_not_, wE_cmp, wE_cmp2, wE_and_, wE_or_, wE_ite, wE_tup, wE_lst, wE_dct, wE_idx, wE_slc, wE_attr, wE_call, wE_new, wE_meth, wE_bi, wE_isi, wE_comp, wEs_nil, wEs_cons, wT_loc, wT_attr, wT_idx, wT_unp, wC_nil, wC_cons, onSome_some, isB_bool, cmp_eq, cmp_ne, cmp_lt, cmp_le, cmp_gt, cmp_ge, cmp_is_nn, cmp_is_in, cmp_is_tn, cmp_is_sn, cmp_isn_nn, cmp_isn_in, cmp_isn_tn, cmp_in_t, eqop_int, eqop_str, eqop_nn, eqop_ni, eqop_in, eqop_ns, eqop_sn, bin_add, bin_sub, idx_tup, bi_lent, bi_intb, getL0, getLs, seq0, seq1, seq2, seq3, List.map_cons, List.map_nil, List.cons_append, List.nil_append, List.set_cons_zero, List.set_cons_succ, List.length_cons, List.length_nil, Nat.reduceLT, Nat.reduceAdd, Nat.reduceSub, Nat.reduceEqDiff, if_true, if_false, decide_true, decide_false, Option.map_some, Option.map_none, Bool.not_true, Bool.not_false, getK, putK, List.replicate_succ, List.replicate_zero, true_and, and_true, List.isEmpty_nil, List.isEmpty_cons, asRef_ref, setO_list, Option.bind_some, w0', bi_min, e9, it_rev (show -1000 ≤ ((min (P.m - 1) 8 : Nat) : Int) ∧ ((min (P.m - 1) 8 : Nat) : Int) ≤ lim by unfold lim; (first | lia | omega)), Int.toNat_natCast]
          refine for_ind (fun xs σ => ∃ (j : Nat) (v : Option V), j ≤ min (P.m - 1) 8 ∧ xs = (rangeL 0 j).reverse ∧ lastMark P.mar j = lastMark P.mar (min (P.m - 1) 8) ∧ σ = ⟨[some (.int P.m), some (.ref Mk), some (.bool P.raises), some (.int n), some (.int (wide : Int)), some (.ref Mo), some (.int u), some (.int ((min P.m 8 - 1 : Nat) : Int)), none, v], h⟩) ?_ ?_ _ _ ⟨_, none, Nat.le_refl _, rfl, rfl, rfl⟩
          · rintro σ ⟨j, v, j1, j2, j3, rfl⟩
            refine ⟨trivial, ?_⟩
            cases j with
            | succ j => rw [rangeL_last, List.reverse_append] at j2; cases j2
            | zero =>
              rw [← j3] at hQ
              simp only [lastMark] at hQ
              simp only [fDue_10, wS_skip, wS_seq, wS_expr, wS_asg, wS_if_, wS_while_, wS_for_, wS_ret, wS_raise, wE_none, wE_bool, wE_int, wE_str, wE_loc, wE_glob, wE_bin, wE_not_, wE_cmp, wE_cmp2, wE_and_, wE_or_, wE_ite, wE_tup, wE_lst, wE_dct, wE_idx, wE_slc, wE_attr, wE_call, wE_new, wE_meth, wE_bi, wE_isi, wE_comp, wEs_nil, wEs_cons, wT_loc, wT_attr, wT_idx, wT_unp, wC_nil, wC_cons, onSome_some, isB_bool, cmp_eq, cmp_ne, cmp_lt, cmp_le, cmp_gt, cmp_ge, cmp_is_nn, cmp_is_in, cmp_is_tn, cmp_is_sn, cmp_isn_nn, cmp_isn_in, cmp_isn_tn, cmp_in_t, eqop_int, eqop_str, eqop_nn, eqop_ni, eqop_in, eqop_ns, eqop_sn, bin_add, bin_sub, idx_tup, bi_lent, bi_intb, getL0, getLs, seq0, seq1, seq2, seq3, List.map_cons, List.map_nil, List.cons_append, List.nil_append, List.set_cons_zero, List.set_cons_succ, List.length_cons, List.length_nil, Nat.reduceLT, Nat.reduceAdd, Nat.reduceSub, Nat.reduceEqDiff, if_true, if_false, decide_true, decide_false, Option.map_some, Option.map_none, Bool.not_true, Bool.not_false, getK, putK, List.replicate_succ, List.replicate_zero, true_and, and_true, List.isEmpty_nil, List.isEmpty_cons, asRef_ref, setO_list, Option.bind_some]
              exact hQ _ _ (by simp [iL]) ((Keep.refl _ h).app (Nat.le_refl _) _)
          · rintro x xs σ K ⟨j, v, j1, j2, j3, rfl⟩ hK
            refine ⟨trivial, ?_⟩
            cases j with
            | zero => cases j2
            | succ j =>
              rw [rangeL_last, List.reverse_append, Int.zero_add] at j2
              cases j2
              have rj := range_at (α := V) (f := fun k => V.bool (P.mar k)) (show j < P.m by first | assumption | exact Nat.lt_of_succ_lt (by assumption) | exact Nat.le_of_lt (by assumption) | lia | omega)
              cases hj : P.mar j with
              | false =>
                rw [hj] at rj
                simp only [lastMark, hj, Bool.false_eq_true, if_false] at j3
                simp only [bindT, fDue_8, wS_skip, wS_seq, wS_expr, wS_asg, wS_if_, wS_while_, wS_for_, wS_ret, wS_raise, wE_none, wE_bool, wE_int, wE_str, wE_loc, wE_glob, wE_bin, wE_not_, wE_cmp, wE_cmp2, wE_and_, wE_or_, wE_ite, wE_tup, wE_lst, wE_dct, wE_idx, wE_slc, wE_attr, wE_call, wE_new, wE_meth, wE_bi, wE_isi, wE_comp, wEs_nil, wEs_cons, wT_loc, wT_attr, wT_idx, wT_unp, wC_nil, wC_cons, onSome_some, isB_bool, cmp_eq, cmp_ne, cmp_lt, cmp_le, cmp_gt, cmp_ge, cmp_is_nn, cmp_is_in, cmp_is_tn, cmp_is_sn, cmp_isn_nn, cmp_isn_in, cmp_isn_tn, cmp_in_t, eqop_int, eqop_str, eqop_nn, eqop_ni, eqop_in, eqop_ns, eqop_sn, bin_add, bin_sub, idx_tup, bi_lent, bi_intb, getL0, getLs, seq0, seq1, seq2, seq3, List.map_cons, List.map_nil, List.cons_append, List.nil_append, List.set_cons_zero, List.set_cons_succ, List.length_cons, List.length_nil, Nat.reduceLT, Nat.reduceAdd, Nat.reduceSub, Nat.reduceEqDiff, if_true, if_false, decide_true, decide_false, Option.map_some, Option.map_none, Bool.not_true, Bool.not_false, getK, putK, List.replicate_succ, List.replicate_zero, true_and, and_true, List.isEmpty_nil, List.isEmpty_cons, asRef_ref, setO_list, Option.bind_some, ix_list gMk, rj]
                exact hK _ ⟨j, _, by first | assumption | exact Nat.lt_of_succ_lt (by assumption) | exact Nat.le_of_lt (by assumption) | lia | omega, rfl, j3, rfl⟩
              | true =>
                rw [hj] at rj
                simp only [lastMark, hj, if_true] at j3
                rw [← j3] at hQ
                obtain ⟨s1, s2⟩ := more_sum (k := j) (ap (.list [.int u])) (by first | assumption | exact Nat.lt_of_succ_lt (by assumption) | exact Nat.le_of_lt (by assumption) | lia | omega)
                simp only [bindT, fDue_8, fDue_9, wS_skip, wS_seq, wS_expr, wS_asg, wS_if_, wS_while_, wS_for_, wS_ret, wS_raise, wE_none, wE_bool, wE_int, wE_str, wE_loc, wE_glob, wE_bin, wE_not_, wE_cmp, wE_cmp2, wE_and_, wE_or_, wE_ite, wE_tup, wE_lst, wE_dct, wE_idx, wE_slc, wE_attr, wE_call, wE_new, wE_meth, wE_bi, wE_isi, wE_comp, wEs_nil, wEs_cons, wT_loc, wT_attr, wT_idx, wT_unp, wC_nil, wC_cons, onSome_some, isB_bool, cmp_eq, cmp_ne, cmp_lt, cmp_le, cmp_gt, cmp_ge, cmp_is_nn, cmp_is_in, cmp_is_tn, cmp_is_sn, cmp_isn_nn, cmp_isn_in, cmp_isn_tn, cmp_in_t, eqop_int, eqop_str, eqop_nn, eqop_ni, eqop_in, eqop_ns, eqop_sn, bin_add, bin_sub, idx_tup, bi_lent, bi_intb, getL0, getLs, seq0, seq1, seq2, seq3, List.map_cons, List.map_nil, List.cons_append, List.nil_append, List.set_cons_zero, List.set_cons_succ, List.length_cons, List.length_nil, Nat.reduceLT, Nat.reduceAdd, Nat.reduceSub, Nat.reduceEqDiff, if_true, if_false, decide_true, decide_false, Option.map_some, Option.map_none, Bool.not_true, Bool.not_false, getK, putK, List.replicate_succ, List.replicate_zero, true_and, and_true, List.isEmpty_nil, List.isEmpty_cons, asRef_ref, setO_list, Option.bind_some, ix_list gMk, rj, s1, s2]
                exact hQ _ _ (at0 _ _) (kk _ _)
      by_cases c8 : (8 : Int) < (P.m : Int)
      · simp only [fDue_2, wS_skip, wS_seq, wS_expr, wS_asg, wS_if_, wS_while_, wS_for_, wS_ret, wS_raise, wE_none, wE_bool, wE_int, wE_str, wE_loc, wE_glob, wE_bin, wE_not_, wE_cmp, wE_cmp2, wE_and_, wE_or_, wE_ite, wE_tup, wE_lst, wE_dct, wE_idx, wE_slc, wE_attr, wE_call, wE_new, wE_meth, wE_bi, wE_isi, wE_comp, wEs_nil, wEs_cons, wT_loc, wT_attr, wT_idx, wT_unp, wC_nil, wC_cons, onSome_some, isB_bool, cmp_eq, cmp_ne, cmp_lt, cmp_le, cmp_gt, cmp_ge, cmp_is_nn, cmp_is_in, cmp_is_tn, cmp_is_sn, cmp_isn_nn, cmp_isn_in, cmp_isn_tn, cmp_in_t, eqop_int, eqop_str, eqop_nn, eqop_ni, eqop_in, eqop_ns, eqop_sn, bin_add, bin_sub, idx_tup, bi_lent, bi_intb, getL0, getLs, seq0, seq1, seq2, seq3, List.map_cons, List.map_nil, List.cons_append, List.nil_append, List.set_cons_zero, List.set_cons_succ, List.length_cons, List.length_nil, Nat.reduceLT, Nat.reduceAdd, Nat.reduceSub, Nat.reduceEqDiff, if_true, if_false, decide_true, decide_false, Option.map_some, Option.map_none, Bool.not_true, Bool.not_false, getK, putK, List.replicate_succ, List.replicate_zero, true_and, and_true, List.isEmpty_nil, List.isEmpty_cons, asRef_ref, setO_list, Option.bind_some, c8]
        exact num 102 (by rw [if_pos (by first | assumption | exact Nat.lt_of_succ_lt (by assumption) | exact Nat.le_of_lt (by assumption) | lia | omega)])
      · simp only [fDue_2, wS_skip, wS_seq, wS_expr, wS_asg, wS_if_, wS_while_, wS_for_, wS_ret, wS_raise, wE_none, wE_bool, wE_int, wE_str, wE_loc, wE_glob, wE_bin, wE_not_, wE_cmp, wE_cmp2, wE_and_, wE_or_, wE_ite, wE_tup, wE_lst, wE_dct, wE_idx, wE_slc, wE_attr, wE_call, wE_new, wE_meth, wE_bi, wE_isi, wE_comp, wEs_nil, wEs_cons, wT_loc, wT_attr, wT_idx, wT_unp, wC_nil, wC_cons, onSome_some, isB_bool, cmp_eq, cmp_ne, cmp_lt, cmp_le, cmp_gt, cmp_ge, cmp_is_nn, cmp_is_in, cmp_is_tn, cmp_is_sn, cmp_isn_nn, cmp_isn_in, cmp_isn_tn, cmp_in_t, eqop_int, eqop_str, eqop_nn, eqop_ni, eqop_in, eqop_ns, eqop_sn, bin_add, bin_sub, idx_tup, bi_lent, bi_intb, getL0, getLs, seq0, seq1, seq2, seq3, List.map_cons, List.map_nil, List.cons_append, List.nil_append, List.set_cons_zero, List.set_cons_succ, List.length_cons, List.length_nil, Nat.reduceLT, Nat.reduceAdd, Nat.reduceSub, Nat.reduceEqDiff, if_true, if_false, decide_true, decide_false, Option.map_some, Option.map_none, Bool.not_true, Bool.not_false, getK, putK, List.replicate_succ, List.replicate_zero, true_and, and_true, List.isEmpty_nil, List.isEmpty_cons, asRef_ref, setO_list, Option.bind_some, c8]
        exact num n (by rw [if_neg (by first | assumption | exact Nat.lt_of_succ_lt (by assumption) | exact Nat.le_of_lt (by assumption) | lia | omega)])
    by_cases c1 : (P.m : Int) ≤ 8
    · have hr : P.raises = true := by
        cases q : P.raises with
        | true => rfl
        | false => exact (c0 ⟨by first | assumption | exact Nat.lt_of_succ_lt (by assumption) | exact Nat.le_of_lt (by assumption) | lia | omega, q⟩).elim
      simp only [fDue_0, wS_skip, wS_seq, wS_expr, wS_asg, wS_if_, wS_while_, wS_for_, wS_ret, wS_raise, wE_none, wE_bool, wE_int, wE_str, wE_loc, wE_glob, wE_bin, wE_not_, wE_cmp, wE_cmp2, wE_and_, wE_or_, wE_ite, wE_tup, wE_lst, wE_dct, wE_idx, wE_slc, wE_attr, wE_call, wE_new, wE_meth, wE_bi, wE_isi, wE_comp, wEs_nil, wEs_cons, wT_loc, wT_attr, wT_idx, wT_unp, wC_nil, wC_cons, onSome_some, isB_bool, cmp_eq, cmp_ne, cmp_lt, cmp_le, cmp_gt, cmp_ge, cmp_is_nn, cmp_is_in, cmp_is_tn, cmp_is_sn, cmp_isn_nn, cmp_isn_in, cmp_isn_tn, cmp_in_t, eqop_int, eqop_str, eqop_nn, eqop_ni, eqop_in, eqop_ns, eqop_sn, bin_add, bin_sub, idx_tup, bi_lent, bi_intb, getL0, getLs, seq0, seq1, seq2, seq3, List.map_cons, List.map_nil, List.cons_append, List.nil_append, List.set_cons_zero, List.set_cons_succ, List.length_cons, List.length_nil, Nat.reduceLT, Nat.reduceAdd, Nat.reduceSub, Nat.reduceEqDiff, if_true, if_false, decide_true, decide_false, Option.map_some, Option.map_none, Bool.not_true, Bool.not_false, getK, putK, List.replicate_succ, List.replicate_zero, true_and, and_true, List.isEmpty_nil, List.isEmpty_cons, asRef_ref, setO_list, Option.bind_some, c1, hr]
      rw [hr] at tail
      exact tail
    · simp only [fDue_0, wS_skip, wS_seq, wS_expr, wS_asg, wS_if_, wS_while_, wS_for_, wS_ret, wS_raise, wE_none, wE_bool, wE_int, wE_str, wE_loc, wE_glob, wE_bin, wE_not_, wE_cmp, wE_cmp2, wE_and_, wE_or_, wE_ite, wE_tup, wE_lst, wE_dct, wE_idx, wE_slc, wE_attr, wE_call, wE_new, wE_meth, wE_bi, wE_isi, wE_comp, wEs_nil, wEs_cons, wT_loc, wT_attr, wT_idx, wT_unp, wC_nil, wC_cons, onSome_some, isB_bool, cmp_eq, cmp_ne, cmp_lt, cmp_le, cmp_gt, cmp_ge, cmp_is_nn, cmp_is_in, cmp_is_tn, cmp_is_sn, cmp_isn_nn, cmp_isn_in, cmp_isn_tn, cmp_in_t, eqop_int, eqop_str, eqop_nn, eqop_ni, eqop_in, eqop_ns, eqop_sn, bin_add, bin_sub, idx_tup, bi_lent, bi_intb, getL0, getLs, seq0, seq1, seq2, seq3, List.map_cons, List.map_nil, List.cons_append, List.nil_append, List.set_cons_zero, List.set_cons_succ, List.length_cons, List.length_nil, Nat.reduceLT, Nat.reduceAdd, Nat.reduceSub, Nat.reduceEqDiff, if_true, if_false, decide_true, decide_false, Option.map_some, Option.map_none, Bool.not_true, Bool.not_false, getK, putK, List.replicate_succ, List.replicate_zero, true_and, and_true, List.isEmpty_nil, List.isEmpty_cons, asRef_ref, setO_list, Option.bind_some, c1]
      exact tail

abbrev KT : V → Hp → Prop := fun v _ => v = .bool true
omit G in
theorem bi_len3 (a b c : V) (h : Hp) : biop .len [.tup [a, b, c]] h = some (.int 3, h) := rfl

theorem whole_comp {r : Nat} {h : Hp} {a : Nat} {xs : List Int} {loc : Locs} {src : E} {N : Oracle} {Q : V → Hp → Prop} {X : Nat → Hp → Prop} (ha : h[a]? = some (iL xs)) (hs : ∀ Q, Q (.ref a) h → wpE g (callWp g (r + 2)) N loc src h Q X) (hQ : Q (.ref h.length) (h ++ [.list []])) :
    wpE g (callWp g (r + 2)) N loc (.comp 2 [] [1] .seq src [(.not_ (.call 12 [(.loc 1)]))] (.loc 1)) h Q X := by
  rw [wE_comp]
  refine hs _ ?_
  simp only [it_list (show h[a]? = some (.list (xs.map .int)) from ha), onSome_some, capL]
  refine comp_ind (fun ys l acc h' => h' = h ∧ l.length = 2 ∧ acc = [] ∧ ∃ zs : List Int, ys = zs.map .int) ?_ ?_ _ _ _ _ ⟨rfl, rfl, rfl, xs, rfl⟩
  · rintro l acc h' ⟨rfl, _, rfl, _⟩
    exact ⟨ha, hQ⟩
  · rintro y ys l acc h' K ⟨rfl, hl, rfl, zs, e⟩ hK
    refine ⟨ha, ?_⟩
    cases zs with
    | nil => cases e
    | cons z zs =>
      cases e
      have g1 : getL (l.set 1 (some (.int z))) 1 = some (.int z) := by
        unfold getL; rw [List.getElem?_set_self (by first | assumption | exact Nat.lt_of_succ_lt (by assumption) | exact Nat.le_of_lt (by assumption) | lia | omega)]
      simp only [bindT, hl, wS_skip, wS_seq, wS_expr, wS_asg, wS_if_, wS_while_, wS_for_, wS_ret, wS_raise, wE_none, wE_bool, wE_int, wE_str, wE_loc, wE_glob, wE_bin, wE_not_, wE_cmp, wE_cmp2, wE_and_, wE_or_, wE_ite, wE_tup, wE_lst, wE_dct, wE_idx, wE_slc, wE_attr, wE_call, wE_new, wE_meth, wE_bi, wE_isi, wE_comp, wEs_nil, wEs_cons, wT_loc, wT_attr, wT_idx, wT_unp, wC_nil, wC_cons, onSome_some, isB_bool, cmp_eq, cmp_ne, cmp_lt, cmp_le, cmp_gt, cmp_ge, cmp_is_nn, cmp_is_in, cmp_is_tn, cmp_is_sn, cmp_isn_nn, cmp_isn_in, cmp_isn_tn, cmp_in_t, eqop_int, eqop_str, eqop_nn, eqop_ni, eqop_in, eqop_ns, eqop_sn, bin_add, bin_sub, idx_tup, bi_lent, bi_intb, getL0, getLs, seq0, seq1, seq2, seq3, List.map_cons, List.map_nil, List.cons_append, List.nil_append, List.set_cons_zero, List.set_cons_succ, List.length_cons, List.length_nil, Nat.reduceLT, Nat.reduceAdd, Nat.reduceSub, Nat.reduceEqDiff, if_true, if_false, decide_true, decide_false, Option.map_some, Option.map_none, Bool.not_true, Bool.not_false, getK, putK, List.replicate_succ, List.replicate_zero, true_and, and_true, List.isEmpty_nil, List.isEmpty_cons, asRef_ref, setO_list, Option.bind_some, g1]
      refine whole_ok G.f12 ?_
      simp only [wS_skip, wS_seq, wS_expr, wS_asg, wS_if_, wS_while_, wS_for_, wS_ret, wS_raise, wE_none, wE_bool, wE_int, wE_str, wE_loc, wE_glob, wE_bin, wE_not_, wE_cmp, wE_cmp2, wE_and_, wE_or_, wE_ite, wE_tup, wE_lst, wE_dct, wE_idx, wE_slc, wE_attr, wE_call, wE_new, wE_meth, wE_bi, wE_isi, wE_comp, wEs_nil, wEs_cons, wT_loc, wT_attr, wT_idx, wT_unp, wC_nil, wC_cons, onSome_some, isB_bool, cmp_eq, cmp_ne, cmp_lt, cmp_le, cmp_gt, cmp_ge, cmp_is_nn, cmp_is_in, cmp_is_tn, cmp_is_sn, cmp_isn_nn, cmp_isn_in, cmp_isn_tn, cmp_in_t, eqop_int, eqop_str, eqop_nn, eqop_ni, eqop_in, eqop_ns, eqop_sn, bin_add, bin_sub, idx_tup, bi_lent, bi_intb, getL0, getLs, seq0, seq1, seq2, seq3, List.map_cons, List.map_nil, List.cons_append, List.nil_append, List.set_cons_zero, List.set_cons_succ, List.length_cons, List.length_nil, Nat.reduceLT, Nat.reduceAdd, Nat.reduceSub, Nat.reduceEqDiff, if_true, if_false, decide_true, decide_false, Option.map_some, Option.map_none, Bool.not_true, Bool.not_false, getK, putK, List.replicate_succ, List.replicate_zero, true_and, and_true, List.isEmpty_nil, List.isEmpty_cons, asRef_ref, setO_list, Option.bind_some]
      exact hK _ _ _ ⟨rfl, by simp [hl], rfl, zs, rfl⟩ (by simp)

omit G in
theorem range_comp {C N : Oracle} {h : Hp} {m : Nat} {f : Nat → V} {l0 l1 : Option V} {l : Locs} {elt : E} {Q : V → Hp → Prop} {X : Nat → Hp → Prop} (hm : m ≤ 1000) (helt : ∀ k, k < m → ∀ Q' : V → Hp → Prop, Q' (f k) h → wpE g C N [none, some (.int (k : Int)), some (.ref 0)] elt h Q' X) (hQ : Q (.ref h.length) (h ++ [.list ((List.range m).map f)])) :
    wpE g C N (some (.ref 0) :: l1 :: some (.int (m : Int)) :: l) (.comp 3 [(2, 0)] [1] .range (.loc 2) [] elt) h Q X := by
  rw [wE_comp]
  have hr : -1000 ≤ (m : Int) ∧ (m : Int) ≤ lim := by unfold lim; (first | lia | omega)
  simp only [wE_loc, getLs, getL0, onSome_some, it_range hr, capL, Int.toNat_natCast, List.replicate_succ, List.replicate_zero, List.set_cons_succ, List.set_cons_zero]
  refine comp_ind (fun ys l acc h' => ∃ (j : Nat) (u : Option V), j ≤ m ∧ ys = rangeL (j : Int) (m - j) ∧ h' = h ∧ l = [none, u, some (.ref 0)] ∧ acc = (List.range j).map f) ?_ ?_ _ _ _ _ ⟨0, none, Nat.zero_le _, rfl, rfl, rfl, rfl⟩
  · rintro l acc h' ⟨j, u, j1, j2, rfl, rfl, rfl⟩
    refine ⟨trivial, ?_⟩
    have ej : j = m := by
      cases hq : m - j with
      | zero => omega
      | succ q => rw [hq] at j2; cases j2
    subst ej
    exact hQ
  · rintro y ys l acc h' K ⟨j, u, j1, j2, rfl, rfl, rfl⟩ hK
    refine ⟨trivial, ?_⟩
    have hjm : j < m := by
      rcases Nat.lt_or_ge j m with q | q
      · exact q
      · rw [show m - j = 0 by first | assumption | exact Nat.lt_of_succ_lt (by assumption) | exact Nat.le_of_lt (by assumption) | lia | omega] at j2; cases j2
    rw [show m - j = (m - (j + 1)) + 1 by first | assumption | exact Nat.lt_of_succ_lt (by assumption) | exact Nat.le_of_lt (by assumption) | lia | omega, rangeL] at j2
    cases j2
    simp only [bindT, List.length_cons, List.length_nil, Nat.reduceAdd, Nat.reduceLT, if_true, onSome_some, List.set_cons_succ, List.set_cons_zero, wC_nil]
    refine helt j hjm _ ?_
    refine hK _ _ _ ⟨j + 1, _, by first | assumption | exact Nat.lt_of_succ_lt (by assumption) | exact Nat.le_of_lt (by assumption) | lia | omega, by rw [show ((j : Int) + 1) = ((j + 1 : Nat) : Int) by first | assumption | exact Nat.lt_of_succ_lt (by assumption) | exact Nat.le_of_lt (by assumption) | lia | omega], rfl, rfl, ?_⟩ ?_
    · rw [List.range_succ, List.map_append]; rfl
    · simp only [List.length_append, List.length_map, List.length_range, List.length_cons, List.length_nil]; unfold lim; (first | lia | omega)

theorem end_ok {r : Nat} {h : Hp} {a b w : Nat} {i : Int} {xs : List Int} {l0 l1 l2 l3 l4 l5 l6 l7 l8 l9 : Option V} {KN : St → Prop} {X : Nat → Hp → Prop} (ha : h[a]? = some (iL xs)) (hb : h[b]? = some (iL xs)) :
    wpS g (callWp g (r + 2)) (callWp g (r + 1)) fLaw_13 ⟨[l0, l1, l2, l3, l4, l5, l6, l7, l8, l9, some (.tup [.ref a, .str w, .int i]), some (.tup [.ref b, .str w, .int i])], h⟩ KN KT X := by
  generalize callWp g (r + 1) = N
  rw [fLaw_13, wpS_seq]
  simp only [wS_if_, wE_or_, wE_cmp, wE_not_, wE_isi, wE_bi, wEs_cons, wEs_nil, wE_int, wE_loc, getLs, getL0, onSome_some, cmp_ne, eqop_int, decide_true, Option.map_some, Bool.not_true, isB_bool, isi_tup, bi_len3]
  rw [wS_skip, fLaw_15, wpS_seq]
  simp only [wS_if_]
  rw [wE_or_, wE_not_]
  simp only [wE_or_, wE_not_, wE_cmp, wE_bi, wE_isi, wE_idx, wE_int, wE_loc, getLs, getL0, onSome_some, idx_tup, seq0, isi_list (show h[a]? = some (.list (xs.map .int)) from ha), isB_bool, Bool.not_true]
  have ha' : (h ++ [O.list []])[a]? = some (iL xs) := by rw [List.getElem?_append_left (get_lt ha)]; exact ha
  have hb' : (h ++ [O.list []])[b]? = some (iL xs) := by rw [List.getElem?_append_left (get_lt hb)]; exact hb
  rw [wEs_cons]
  refine whole_comp G ha (fun Q hq => ?_) ?_
  · simp only [wE_idx, wE_int, wE_loc, getL0, getLs, onSome_some, idx_tup, seq0]
    exact hq
  have nn : (h ++ [O.list []])[h.length]? = some (.list []) := by simp
  simp only [wEs_nil, bi_len nn, List.length_nil, Int.natCast_zero, onSome_some, cmp_gt, Int.lt_irrefl, decide_false, cmp_ne, eq_refs (rd_ints ha') (rd_ints hb'), Option.map_some, Bool.not_true, isB_bool, wS_skip]
  simp only [fLaw_17, wS_seq, wS_ret, wE_and_, wE_isi, wE_call, wE_cmp, wE_tup, wE_idx, wE_int, wEs_cons, wEs_nil, wE_loc, getL0, getLs, onSome_some, idx_tup, seq1, seq2, isi_str, isB_bool]
  refine whole_ok G.f12 ?_
  have : eqop (.tup [.str w, .int i]) (.tup [.str w, .int i]) (h ++ [O.list []]) = some true := by
    rw [eqop_tt]
    exact eq_same (h := h ++ [O.list []]) (x := .tup [.str w, .int i]) rfl rfl
  simp only [isB_bool, onSome_some, cmp_eq, this]

noncomputable def parOf (ns : List Int) (fN : Nat) : Par where
  m := 1 + fN % 12
  mar := fun k => decide ((cellAt ns (3 + k)).fmod 3 = 1)
  mo := fun k => ((cellAt ns (3 + k)).fdiv 3).fmod 40 - 5
  raises := decide (fN / 12 % 2 = 1)
  cnt := fN / 72 % 108 / 36 % 3
  s := fN / 72 % 108 / 3

theorem eight_ok {r : Nat} {h : Hp} {ns : List Int} {fN : Nat} {n T : Int} {Mk Mo : Nat} {KN : St → Prop} {X : Nat → Hp → Prop} (hT : 0 ≤ T) (hMk : h[Mk]? = some (marksV (parOf ns fN))) (hMo : h[Mo]? = some (moreV (parOf ns fN))) :
    wpS g (callWp g (r + 7)) (callWp g (r + 6)) fLaw_8 ⟨[some (.ref 0), some (.int (fN : Int)), some (.int ((parOf ns fN).m : Int)), some (.int n), some (.ref Mk), some (.ref Mo), some (.bool (parOf ns fN).raises), some (.int ((fN / 24 % 3 : Nat) : Int)), some (.int T), none, none, none], h⟩ KN KT X := by
  have b72 : (72 : Int) ≠ 0 := by decide
  have b108 : (108 : Int) ≠ 0 := by decide
  have e72 : Int.fdiv (fN : Int) 72 = ((fN / 72 : Nat) : Int) := fdivN fN 72 (by decide)
  have e108 : Int.fmod ((fN / 72 : Nat) : Int) 108 = ((fN / 72 % 108 : Nat) : Int) := fmodN _ 108
  have hm : (parOf ns fN).m = 1 + fN % 12 := rfl
  have hc : (parOf ns fN).cnt ≤ 2 := by show fN / 72 % 108 / 36 % 3 ≤ 2; (first | lia | omega)
  rw [fLaw_8, wpS_seq, wS_asg]
  simp only [wE_call, wEs_cons, wEs_nil, wE_loc, wE_bin, wE_int, getLs, getL0, onSome_some, bin_div _ _ _ b72, e72, bin_mod _ _ _ b108, e108]
  refine parts_ok G (r := r + 5) (P := parOf ns fN) (wide := fN / 24 % 3) (tn := fN / 72 % 108) (by first | assumption | exact Nat.lt_of_succ_lt (by assumption) | exact Nat.le_of_lt (by assumption) | lia | omega) (by first | assumption | exact Nat.lt_of_succ_lt (by assumption) | exact Nat.le_of_lt (by assumption) | lia | omega) rfl rfl (by first | assumption | exact Nat.lt_of_succ_lt (by assumption) | exact Nat.le_of_lt (by assumption) | lia | omega) hMk hMo fun C' S' B' h1 code stx starts I g1 g2 g3 k1 => ?_
  rw [wT_loc]
  simp only [List.length_cons, List.length_nil, Nat.reduceAdd, Nat.reduceLT, true_and, List.set_cons_succ, List.set_cons_zero]
  obtain ⟨p0, hp0, k, e, hrun, hsaid, htold⟩ := lay_of (wide := fN / 24 % 3) (n := n) (t := T) (by first | assumption | exact Nat.lt_of_succ_lt (by assumption) | exact Nat.le_of_lt (by assumption) | lia | omega) hT hc (by first | assumption | exact Nat.lt_of_succ_lt (by assumption) | exact Nat.le_of_lt (by assumption) | lia | omega) I
  have a1 : (h1 ++ [O.list ((code ++ [Row.say, Row.put 40, Row.back]).map Row.v)])[S']? = some (.list ((wideS (fN / 24 % 3) (code.length : Int) stx).map strV)) := by rw [List.getElem?_append_left (get_lt g2)]; exact g2
  have a2 : (h1 ++ [O.list ((code ++ [Row.say, Row.put 40, Row.back]).map Row.v)] ++ [O.list ((wideS (fN / 24 % 3) (code.length : Int) stx).map strV)])[B']? = some (.list (starts.map .int)) := by
    rw [List.getElem?_append_left (by simp; have := get_lt g3; (first | lia | omega)), List.getElem?_append_left (get_lt g3)]; exact g3
  rw [fLaw_9, wpS_seq, wS_asg]
  simp only [wE_call, wEs_cons, wEs_nil, wE_tup, wE_bi, wE_idx, wE_loc, wE_int, getLs, getL0, onSome_some, idx_tup, seq0, seq1, seq2, bi_list g1, bi_list a1, bi_list a2]
  have q0 : (h1 ++ [O.list ((code ++ [Row.say, Row.put 40, Row.back]).map Row.v)] ++ [O.list ((wideS (fN / 24 % 3) (code.length : Int) stx).map strV)] ++ [O.list (starts.map V.int)])[h1.length]? = some (.list ((code ++ [Row.say, Row.put 40, Row.back]).map Row.v)) := by
    rw [List.getElem?_append_left (by simp), List.getElem?_append_left (by simp)]; simp
  have q1 : (h1 ++ [O.list ((code ++ [Row.say, Row.put 40, Row.back]).map Row.v)] ++ [O.list ((wideS (fN / 24 % 3) (code.length : Int) stx).map strV)] ++ [O.list (starts.map V.int)])[(h1 ++ [O.list ((code ++ [Row.say, Row.put 40, Row.back]).map Row.v)]).length]? = some (.list ((wideS (fN / 24 % 3) (code.length : Int) stx).map strV)) := by
    rw [List.getElem?_append_left (by simp)]; simp
  have q2 : (h1 ++ [O.list ((code ++ [Row.say, Row.put 40, Row.back]).map Row.v)] ++ [O.list ((wideS (fN / 24 % 3) (code.length : Int) stx).map strV)] ++ [O.list (starts.map V.int)])[(h1 ++ [O.list ((code ++ [Row.say, Row.put 40, Row.back]).map Row.v)] ++ [O.list ((wideS (fN / 24 % 3) (code.length : Int) stx).map strV)]).length]? = some (iL starts) := by
    rw [List.getElem?_append_right (Nat.le_refl _)]; simp [iL]
  have k2 : Keep h.length h (h1 ++ [O.list ((code ++ [Row.say, Row.put 40, Row.back]).map Row.v)] ++ [O.list ((wideS (fN / 24 % 3) (code.length : Int) stx).map strV)] ++ [O.list (starts.map V.int)]) := ((k1.app (Nat.le_refl _) _).app (Nat.le_refl _) _).app (Nat.le_refl _) _
  generalize (h1 ++ [O.list ((code ++ [Row.say, Row.put 40, Row.back]).map Row.v)] ++ [O.list ((wideS (fN / 24 % 3) (code.length : Int) stx).map strV)]).length = x2 at *
  generalize (h1 ++ [O.list ((code ++ [Row.say, Row.put 40, Row.back]).map Row.v)]).length = x1 at *
  generalize h1 ++ [O.list ((code ++ [Row.say, Row.put 40, Row.back]).map Row.v)] ++ [O.list ((wideS (fN / 24 % 3) (code.length : Int) stx).map strV)] ++ [O.list (starts.map V.int)] = H at *
  refine run_ok G.M (r := r) (c := ⟨code ++ [Row.say, Row.put 40, Row.back], wideS (fN / 24 % 3) (code.length : Int) stx, starts, 1⟩) q0 q1 q2 hp0 (show (0 : Int) ≤ 1 ∧ (1 : Int) ≤ 1000 by decide) hrun htold fun h2 a z1 z2 z3 => ?_
  rw [wT_loc]
  simp only [List.length_cons, List.length_nil, Nat.reduceAdd, Nat.reduceLT, true_and, List.set_cons_succ, List.set_cons_zero]
  rw [hsaid] at z2
  have k3 : Keep h.length h h2 := k2.trans (z3.mono k2.1)
  have hMk2 := (k3.2 _ (get_lt hMk)).trans hMk
  have hMo2 := (k3.2 _ (get_lt hMo)).trans hMo
  have e9 : (if (9 : Int) < ((parOf ns fN).m : Int) then (9 : Int) else ((parOf ns fN).m : Int)) - 1 = ((min (parOf ns fN).m 9 : Nat) : Int) - 1 := by split <;> (first | lia | omega)
  rw [fLaw_10, wpS_seq, wS_asg]
  simp only [wE_tup, wE_lst, wEs_cons, wEs_nil, wE_str, wE_int, wT_loc, List.length_cons, List.length_nil, Nat.reduceAdd, Nat.reduceLT, true_and, List.set_cons_succ, List.set_cons_zero]
  have ap : ∀ {b : Nat} {o o' : O}, h2[b]? = some o → (h2 ++ [o'])[b]? = some o := fun e => by rw [List.getElem?_append_left (get_lt e)]; exact e
  by_cases ct : T < ((min (parOf ns fN).m 9 : Nat) : Int) - 1
  · rw [if_pos ct] at z2 ⊢
    simp only [fLaw_11, wS_skip, wS_seq, wS_expr, wS_asg, wS_if_, wS_while_, wS_for_, wS_ret, wS_raise, wE_none, wE_bool, wE_int, wE_str, wE_loc, wE_glob, wE_bin, wE_not_, wE_cmp, wE_cmp2, wE_and_, wE_or_, wE_ite, wE_tup, wE_lst, wE_dct, wE_idx, wE_slc, wE_attr, wE_call, wE_new, wE_meth, wE_bi, wE_isi, wE_comp, wEs_nil, wEs_cons, wT_loc, wT_attr, wT_idx, wT_unp, wC_nil, wC_cons, onSome_some, isB_bool, cmp_eq, cmp_ne, cmp_lt, cmp_le, cmp_gt, cmp_ge, cmp_is_nn, cmp_is_in, cmp_is_tn, cmp_is_sn, cmp_isn_nn, cmp_isn_in, cmp_isn_tn, cmp_in_t, eqop_int, eqop_str, eqop_nn, eqop_ni, eqop_in, eqop_ns, eqop_sn, bin_add, bin_sub, idx_tup, bi_lent, bi_intb, getL0, getLs, seq0, seq1, seq2, seq3, List.map_cons, List.map_nil, List.cons_append, List.nil_append, List.set_cons_zero, List.set_cons_succ, List.length_cons, List.length_nil, Nat.reduceLT, Nat.reduceAdd, Nat.reduceSub, Nat.reduceEqDiff, if_true, if_false, decide_true, decide_false, Option.map_some, Option.map_none, Bool.not_true, Bool.not_false, getK, putK, List.replicate_succ, List.replicate_zero, true_and, and_true, List.isEmpty_nil, List.isEmpty_cons, asRef_ref, setO_list, Option.bind_some, bi_min, e9, show ¬ ((min (parOf ns fN).m 9 : Nat) : Int) - 1 ≤ T by first | assumption | exact Nat.lt_of_succ_lt (by assumption) | exact Nat.le_of_lt (by assumption) | lia | omega]
    exact end_ok G (r := r + 5) (xs := []) (ap z2) (by simp [iL])
  · rw [if_neg ct] at z2 ⊢
    simp only [fLaw_11, fLaw_12, wS_skip, wS_seq, wS_expr, wS_asg, wS_if_, wS_while_, wS_for_, wS_ret, wS_raise, wE_none, wE_bool, wE_int, wE_str, wE_loc, wE_glob, wE_bin, wE_not_, wE_cmp, wE_cmp2, wE_and_, wE_or_, wE_ite, wE_tup, wE_lst, wE_dct, wE_idx, wE_slc, wE_attr, wE_call, wE_new, wE_meth, wE_bi, wE_isi, wE_comp, wEs_nil, wEs_cons, wT_loc, wT_attr, wT_idx, wT_unp, wC_nil, wC_cons, onSome_some, isB_bool, cmp_eq, cmp_ne, cmp_lt, cmp_le, cmp_gt, cmp_ge, cmp_is_nn, cmp_is_in, cmp_is_tn, cmp_is_sn, cmp_isn_nn, cmp_isn_in, cmp_isn_tn, cmp_in_t, eqop_int, eqop_str, eqop_nn, eqop_ni, eqop_in, eqop_ns, eqop_sn, bin_add, bin_sub, idx_tup, bi_lent, bi_intb, getL0, getLs, seq0, seq1, seq2, seq3, List.map_cons, List.map_nil, List.cons_append, List.nil_append, List.set_cons_zero, List.set_cons_succ, List.length_cons, List.length_nil, Nat.reduceLT, Nat.reduceAdd, Nat.reduceSub, Nat.reduceEqDiff, if_true, if_false, decide_true, decide_false, Option.map_some, Option.map_none, Bool.not_true, Bool.not_false, getK, putK, List.replicate_succ, List.replicate_zero, true_and, and_true, List.isEmpty_nil, List.isEmpty_cons, asRef_ref, setO_list, Option.bind_some, bi_min, e9, show ((min (parOf ns fN).m 9 : Nat) : Int) - 1 ≤ T by first | assumption | exact Nat.lt_of_succ_lt (by assumption) | exact Nat.le_of_lt (by assumption) | lia | omega]
    refine due_ok G (r := r + 5) (P := parOf ns fN) (wide := fN / 24 % 3) (n := n) (by first | assumption | exact Nat.lt_of_succ_lt (by assumption) | exact Nat.le_of_lt (by assumption) | lia | omega) (by first | assumption | exact Nat.lt_of_succ_lt (by assumption) | exact Nat.le_of_lt (by assumption) | lia | omega) (by first | assumption | exact Nat.lt_of_succ_lt (by assumption) | exact Nat.le_of_lt (by assumption) | lia | omega) (ap hMk2) (ap hMo2) fun a' h3 y1 y2 => ?_
    have z4 := (y2.2 a (by simp; have := get_lt z2; (first | lia | omega))).trans (ap z2)
    exact end_ok G (r := r + 5) z4 y1

theorem spec' (r : Nat) (ns : List Int) (hn : ns.length ≤ 63) : callWp g (r + 9) 17 [.ref 0] [.flist (ns.map .int)] KT (fun _ _ => False) := by
  refine call_enter G.f17 rfl (by decide) ?_
  show wpS g (callWp g (r + 1 + 7)) (callWp g (r + 1 + 6)) fLaw_0 ⟨[some (.ref 0), none, none, none, none, none, none, none, none, none, none, none], [.flist (ns.map .int)]⟩ _ _ _
  have fin := fun fN h n T Mk Mo => eight_ok G (r := r + 1) (h := h) (ns := ns) (fN := fN) (n := n) (T := T) (Mk := Mk) (Mo := Mo) (KN := fun σ => KT .none σ.hp) (X := fun _ _ => False)
  generalize hN : callWp g (r + 1 + 6) = N at *
  have bmod : (1000003 : Int) ≠ 0 := by decide
  simp only [fLaw_0, wS_skip, wS_seq, wS_expr, wS_asg, wS_if_, wS_while_, wS_for_, wS_ret, wS_raise, wE_none, wE_bool, wE_int, wE_str, wE_loc, wE_glob, wE_bin, wE_not_, wE_cmp, wE_cmp2, wE_and_, wE_or_, wE_ite, wE_tup, wE_lst, wE_dct, wE_idx, wE_slc, wE_attr, wE_call, wE_new, wE_meth, wE_bi, wE_isi, wE_comp, wEs_nil, wEs_cons, wT_loc, wT_attr, wT_idx, wT_unp, wC_nil, wC_cons, onSome_some, isB_bool, cmp_eq, cmp_ne, cmp_lt, cmp_le, cmp_gt, cmp_ge, cmp_is_nn, cmp_is_in, cmp_is_tn, cmp_is_sn, cmp_isn_nn, cmp_isn_in, cmp_isn_tn, cmp_in_t, eqop_int, eqop_str, eqop_nn, eqop_ni, eqop_in, eqop_ns, eqop_sn, bin_add, bin_sub, idx_tup, bi_lent, bi_intb, getL0, getLs, seq0, seq1, seq2, seq3, List.map_cons, List.map_nil, List.cons_append, List.nil_append, List.set_cons_zero, List.set_cons_succ, List.length_cons, List.length_nil, Nat.reduceLT, Nat.reduceAdd, Nat.reduceSub, Nat.reduceEqDiff, if_true, if_false, decide_true, decide_false, Option.map_some, Option.map_none, Bool.not_true, Bool.not_false, getK, putK, List.replicate_succ, List.replicate_zero, true_and, and_true, List.isEmpty_nil, List.isEmpty_cons, asRef_ref, setO_list, Option.bind_some]
  refine cellAt_ok (ns := ns) G.f13 0 rfl ?_
  simp only [wS_skip, wS_seq, wS_expr, wS_asg, wS_if_, wS_while_, wS_for_, wS_ret, wS_raise, wE_none, wE_bool, wE_int, wE_str, wE_loc, wE_glob, wE_bin, wE_not_, wE_cmp, wE_cmp2, wE_and_, wE_or_, wE_ite, wE_tup, wE_lst, wE_dct, wE_idx, wE_slc, wE_attr, wE_call, wE_new, wE_meth, wE_bi, wE_isi, wE_comp, wEs_nil, wEs_cons, wT_loc, wT_attr, wT_idx, wT_unp, wC_nil, wC_cons, onSome_some, isB_bool, cmp_eq, cmp_ne, cmp_lt, cmp_le, cmp_gt, cmp_ge, cmp_is_nn, cmp_is_in, cmp_is_tn, cmp_is_sn, cmp_isn_nn, cmp_isn_in, cmp_isn_tn, cmp_in_t, eqop_int, eqop_str, eqop_nn, eqop_ni, eqop_in, eqop_ns, eqop_sn, bin_add, bin_sub, idx_tup, bi_lent, bi_intb, getL0, getLs, seq0, seq1, seq2, seq3, List.map_cons, List.map_nil, List.cons_append, List.nil_append, List.set_cons_zero, List.set_cons_succ, List.length_cons, List.length_nil, Nat.reduceLT, Nat.reduceAdd, Nat.reduceSub, Nat.reduceEqDiff, if_true, if_false, decide_true, decide_false, Option.map_some, Option.map_none, Bool.not_true, Bool.not_false, getK, putK, List.replicate_succ, List.replicate_zero, true_and, and_true, List.isEmpty_nil, List.isEmpty_cons, asRef_ref, setO_list, Option.bind_some, bin_mul _ _ _ (show small 48271 = true from rfl), bin_mod _ _ _ bmod]
  have f1 := Int.fmod_nonneg_of_pos (cellAt ns 0 * 48271) (b := 1000003) (by decide)
  obtain ⟨fN, hf⟩ := Int.eq_ofNat_of_zero_le f1
  rw [hf]
  have b12 : (12 : Int) ≠ 0 := by decide
  have e12 : 1 + Int.fmod (fN : Int) 12 = ((parOf ns fN).m : Int) := by
    rw [show Int.fmod (fN : Int) 12 = ((fN % 12 : Nat) : Int) from fmodN fN 12]; show (1 : Int) + ((fN % 12 : Nat) : Int) = ((1 + fN % 12 : Nat) : Int); (first | lia | omega)
  simp only [fLaw_1, fLaw_2, wS_skip, wS_seq, wS_expr, wS_asg, wS_if_, wS_while_, wS_for_, wS_ret, wS_raise, wE_none, wE_bool, wE_int, wE_str, wE_loc, wE_glob, wE_bin, wE_not_, wE_cmp, wE_cmp2, wE_and_, wE_or_, wE_ite, wE_tup, wE_lst, wE_dct, wE_idx, wE_slc, wE_attr, wE_call, wE_new, wE_meth, wE_bi, wE_isi, wE_comp, wEs_nil, wEs_cons, wT_loc, wT_attr, wT_idx, wT_unp, wC_nil, wC_cons, onSome_some, isB_bool, cmp_eq, cmp_ne, cmp_lt, cmp_le, cmp_gt, cmp_ge, cmp_is_nn, cmp_is_in, cmp_is_tn, cmp_is_sn, cmp_isn_nn, cmp_isn_in, cmp_isn_tn, cmp_in_t, eqop_int, eqop_str, eqop_nn, eqop_ni, eqop_in, eqop_ns, eqop_sn, bin_add, bin_sub, idx_tup, bi_lent, bi_intb, getL0, getLs, seq0, seq1, seq2, seq3, List.map_cons, List.map_nil, List.cons_append, List.nil_append, List.set_cons_zero, List.set_cons_succ, List.length_cons, List.length_nil, Nat.reduceLT, Nat.reduceAdd, Nat.reduceSub, Nat.reduceEqDiff, if_true, if_false, decide_true, decide_false, Option.map_some, Option.map_none, Bool.not_true, Bool.not_false, getK, putK, List.replicate_succ, List.replicate_zero, true_and, and_true, List.isEmpty_nil, List.isEmpty_cons, asRef_ref, setO_list, Option.bind_some, bin_mod _ _ _ b12, e12]
  refine cellAt_ok (ns := ns) G.f13 1 rfl ?_
  refine number_ok G.f14 ?_
  generalize numF (cellAt ns 1) = n
  have hm : (parOf ns fN).m ≤ 1000 := by show 1 + fN % 12 ≤ 1000; (first | lia | omega)
  have b3 : (3 : Int) ≠ 0 := by decide
  have b40 : (40 : Int) ≠ 0 := by decide
  rw [fLaw_3, wpS_seq, wS_asg]
  refine range_comp (m := (parOf ns fN).m) (f := fun k => .bool ((parOf ns fN).mar k)) (l0 := none) hm (fun k hk Q' q => ?_) ?_
  · simp only [wS_skip, wS_seq, wS_expr, wS_asg, wS_if_, wS_while_, wS_for_, wS_ret, wS_raise, wE_none, wE_bool, wE_int, wE_str, wE_loc, wE_glob, wE_bin, wE_not_, wE_cmp, wE_cmp2, wE_and_, wE_or_, wE_ite, wE_tup, wE_lst, wE_dct, wE_idx, wE_slc, wE_attr, wE_call, wE_new, wE_meth, wE_bi, wE_isi, wE_comp, wEs_nil, wEs_cons, wT_loc, wT_attr, wT_idx, wT_unp, wC_nil, wC_cons, onSome_some, isB_bool, cmp_eq, cmp_ne, cmp_lt, cmp_le, cmp_gt, cmp_ge, cmp_is_nn, cmp_is_in, cmp_is_tn, cmp_is_sn, cmp_isn_nn, cmp_isn_in, cmp_isn_tn, cmp_in_t, eqop_int, eqop_str, eqop_nn, eqop_ni, eqop_in, eqop_ns, eqop_sn, bin_add, bin_sub, idx_tup, bi_lent, bi_intb, getL0, getLs, seq0, seq1, seq2, seq3, List.map_cons, List.map_nil, List.cons_append, List.nil_append, List.set_cons_zero, List.set_cons_succ, List.length_cons, List.length_nil, Nat.reduceLT, Nat.reduceAdd, Nat.reduceSub, Nat.reduceEqDiff, if_true, if_false, decide_true, decide_false, Option.map_some, Option.map_none, Bool.not_true, Bool.not_false, getK, putK, List.replicate_succ, List.replicate_zero, true_and, and_true, List.isEmpty_nil, List.isEmpty_cons, asRef_ref, setO_list, Option.bind_some]
    rw [show (3 : Int) + (k : Int) = ((3 + k : Nat) : Int) by first | assumption | exact Nat.lt_of_succ_lt (by assumption) | exact Nat.le_of_lt (by assumption) | lia | omega]
    refine cellAt_ok (ns := ns) G.f13 (3 + k) rfl ?_
    simp only [wS_skip, wS_seq, wS_expr, wS_asg, wS_if_, wS_while_, wS_for_, wS_ret, wS_raise, wE_none, wE_bool, wE_int, wE_str, wE_loc, wE_glob, wE_bin, wE_not_, wE_cmp, wE_cmp2, wE_and_, wE_or_, wE_ite, wE_tup, wE_lst, wE_dct, wE_idx, wE_slc, wE_attr, wE_call, wE_new, wE_meth, wE_bi, wE_isi, wE_comp, wEs_nil, wEs_cons, wT_loc, wT_attr, wT_idx, wT_unp, wC_nil, wC_cons, onSome_some, isB_bool, cmp_eq, cmp_ne, cmp_lt, cmp_le, cmp_gt, cmp_ge, cmp_is_nn, cmp_is_in, cmp_is_tn, cmp_is_sn, cmp_isn_nn, cmp_isn_in, cmp_isn_tn, cmp_in_t, eqop_int, eqop_str, eqop_nn, eqop_ni, eqop_in, eqop_ns, eqop_sn, bin_add, bin_sub, idx_tup, bi_lent, bi_intb, getL0, getLs, seq0, seq1, seq2, seq3, List.map_cons, List.map_nil, List.cons_append, List.nil_append, List.set_cons_zero, List.set_cons_succ, List.length_cons, List.length_nil, Nat.reduceLT, Nat.reduceAdd, Nat.reduceSub, Nat.reduceEqDiff, if_true, if_false, decide_true, decide_false, Option.map_some, Option.map_none, Bool.not_true, Bool.not_false, getK, putK, List.replicate_succ, List.replicate_zero, true_and, and_true, List.isEmpty_nil, List.isEmpty_cons, asRef_ref, setO_list, Option.bind_some, bin_mod _ _ _ b3]
    exact q
  rw [wT_loc]
  simp only [List.length_cons, List.length_nil, Nat.reduceAdd, Nat.reduceLT, true_and, List.set_cons_succ, List.set_cons_zero]
  rw [fLaw_4, wpS_seq, wS_asg]
  refine range_comp (m := (parOf ns fN).m) (f := fun k => .int ((parOf ns fN).mo k)) (l0 := none) hm (fun k hk Q' q => ?_) ?_
  · simp only [wS_skip, wS_seq, wS_expr, wS_asg, wS_if_, wS_while_, wS_for_, wS_ret, wS_raise, wE_none, wE_bool, wE_int, wE_str, wE_loc, wE_glob, wE_bin, wE_not_, wE_cmp, wE_cmp2, wE_and_, wE_or_, wE_ite, wE_tup, wE_lst, wE_dct, wE_idx, wE_slc, wE_attr, wE_call, wE_new, wE_meth, wE_bi, wE_isi, wE_comp, wEs_nil, wEs_cons, wT_loc, wT_attr, wT_idx, wT_unp, wC_nil, wC_cons, onSome_some, isB_bool, cmp_eq, cmp_ne, cmp_lt, cmp_le, cmp_gt, cmp_ge, cmp_is_nn, cmp_is_in, cmp_is_tn, cmp_is_sn, cmp_isn_nn, cmp_isn_in, cmp_isn_tn, cmp_in_t, eqop_int, eqop_str, eqop_nn, eqop_ni, eqop_in, eqop_ns, eqop_sn, bin_add, bin_sub, idx_tup, bi_lent, bi_intb, getL0, getLs, seq0, seq1, seq2, seq3, List.map_cons, List.map_nil, List.cons_append, List.nil_append, List.set_cons_zero, List.set_cons_succ, List.length_cons, List.length_nil, Nat.reduceLT, Nat.reduceAdd, Nat.reduceSub, Nat.reduceEqDiff, if_true, if_false, decide_true, decide_false, Option.map_some, Option.map_none, Bool.not_true, Bool.not_false, getK, putK, List.replicate_succ, List.replicate_zero, true_and, and_true, List.isEmpty_nil, List.isEmpty_cons, asRef_ref, setO_list, Option.bind_some]
    rw [show (3 : Int) + (k : Int) = ((3 + k : Nat) : Int) by first | assumption | exact Nat.lt_of_succ_lt (by assumption) | exact Nat.le_of_lt (by assumption) | lia | omega]
    refine cellAt_ok (ns := ns) G.f13 (3 + k) rfl ?_
    simp only [wS_skip, wS_seq, wS_expr, wS_asg, wS_if_, wS_while_, wS_for_, wS_ret, wS_raise, wE_none, wE_bool, wE_int, wE_str, wE_loc, wE_glob, wE_bin, wE_not_, wE_cmp, wE_cmp2, wE_and_, wE_or_, wE_ite, wE_tup, wE_lst, wE_dct, wE_idx, wE_slc, wE_attr, wE_call, wE_new, wE_meth, wE_bi, wE_isi, wE_comp, wEs_nil, wEs_cons, wT_loc, wT_attr, wT_idx, wT_unp, wC_nil, wC_cons, onSome_some, isB_bool, cmp_eq, cmp_ne, cmp_lt, cmp_le, cmp_gt, cmp_ge, cmp_is_nn, cmp_is_in, cmp_is_tn, cmp_is_sn, cmp_isn_nn, cmp_isn_in, cmp_isn_tn, cmp_in_t, eqop_int, eqop_str, eqop_nn, eqop_ni, eqop_in, eqop_ns, eqop_sn, bin_add, bin_sub, idx_tup, bi_lent, bi_intb, getL0, getLs, seq0, seq1, seq2, seq3, List.map_cons, List.map_nil, List.cons_append, List.nil_append, List.set_cons_zero, List.set_cons_succ, List.length_cons, List.length_nil, Nat.reduceLT, Nat.reduceAdd, Nat.reduceSub, Nat.reduceEqDiff, if_true, if_false, decide_true, decide_false, Option.map_some, Option.map_none, Bool.not_true, Bool.not_false, getK, putK, List.replicate_succ, List.replicate_zero, true_and, and_true, List.isEmpty_nil, List.isEmpty_cons, asRef_ref, setO_list, Option.bind_some, bin_div _ _ _ b3, bin_mod _ _ _ b40]
    exact q
  rw [wT_loc]
  simp only [List.length_cons, List.length_nil, Nat.reduceAdd, Nat.reduceLT, true_and, List.set_cons_succ, List.set_cons_zero]
  have b2 : (2 : Int) ≠ 0 := by decide
  have b24 : (24 : Int) ≠ 0 := by decide
  have b15 : (15 : Int) ≠ 0 := by decide
  have d12 : Int.fdiv (fN : Int) 12 = ((fN / 12 : Nat) : Int) := fdivN fN 12 (by decide)
  have d2 : Int.fmod ((fN / 12 : Nat) : Int) 2 = ((fN / 12 % 2 : Nat) : Int) := fmodN _ 2
  have d24 : Int.fdiv (fN : Int) 24 = ((fN / 24 : Nat) : Int) := fdivN fN 24 (by decide)
  have d3 : Int.fmod ((fN / 24 : Nat) : Int) 3 = ((fN / 24 % 3 : Nat) : Int) := fmodN _ 3
  have dr : decide (((fN / 12 % 2 : Nat) : Int) = 1) = (parOf ns fN).raises := by
    show _ = decide (fN / 12 % 2 = 1)
    by_cases q : fN / 12 % 2 = 1
    · rw [decide_eq_true q, decide_eq_true (by first | assumption | exact Nat.lt_of_succ_lt (by assumption) | exact Nat.le_of_lt (by assumption) | lia | omega)]
    · rw [decide_eq_false q, decide_eq_false (by first | assumption | exact Nat.lt_of_succ_lt (by assumption) | exact Nat.le_of_lt (by assumption) | lia | omega)]
  simp only [fLaw_5, fLaw_6, fLaw_7, wS_skip, wS_seq, wS_expr, wS_asg, wS_if_, wS_while_, wS_for_, wS_ret, wS_raise, wE_none, wE_bool, wE_int, wE_str, wE_loc, wE_glob, wE_bin, wE_not_, wE_cmp, wE_cmp2, wE_and_, wE_or_, wE_ite, wE_tup, wE_lst, wE_dct, wE_idx, wE_slc, wE_attr, wE_call, wE_new, wE_meth, wE_bi, wE_isi, wE_comp, wEs_nil, wEs_cons, wT_loc, wT_attr, wT_idx, wT_unp, wC_nil, wC_cons, onSome_some, isB_bool, cmp_eq, cmp_ne, cmp_lt, cmp_le, cmp_gt, cmp_ge, cmp_is_nn, cmp_is_in, cmp_is_tn, cmp_is_sn, cmp_isn_nn, cmp_isn_in, cmp_isn_tn, cmp_in_t, eqop_int, eqop_str, eqop_nn, eqop_ni, eqop_in, eqop_ns, eqop_sn, bin_add, bin_sub, idx_tup, bi_lent, bi_intb, getL0, getLs, seq0, seq1, seq2, seq3, List.map_cons, List.map_nil, List.cons_append, List.nil_append, List.set_cons_zero, List.set_cons_succ, List.length_cons, List.length_nil, Nat.reduceLT, Nat.reduceAdd, Nat.reduceSub, Nat.reduceEqDiff, if_true, if_false, decide_true, decide_false, Option.map_some, Option.map_none, Bool.not_true, Bool.not_false, getK, putK, List.replicate_succ, List.replicate_zero, true_and, and_true, List.isEmpty_nil, List.isEmpty_cons, asRef_ref, setO_list, Option.bind_some, bin_div _ _ _ b12, d12, bin_mod _ _ _ b2, d2, dr, bin_div _ _ _ b24, d24, bin_mod _ _ _ b3, d3]
  refine cellAt_ok (ns := ns) G.f13 2 rfl ?_
  simp only [wS_skip, wS_seq, wS_expr, wS_asg, wS_if_, wS_while_, wS_for_, wS_ret, wS_raise, wE_none, wE_bool, wE_int, wE_str, wE_loc, wE_glob, wE_bin, wE_not_, wE_cmp, wE_cmp2, wE_and_, wE_or_, wE_ite, wE_tup, wE_lst, wE_dct, wE_idx, wE_slc, wE_attr, wE_call, wE_new, wE_meth, wE_bi, wE_isi, wE_comp, wEs_nil, wEs_cons, wT_loc, wT_attr, wT_idx, wT_unp, wC_nil, wC_cons, onSome_some, isB_bool, cmp_eq, cmp_ne, cmp_lt, cmp_le, cmp_gt, cmp_ge, cmp_is_nn, cmp_is_in, cmp_is_tn, cmp_is_sn, cmp_isn_nn, cmp_isn_in, cmp_isn_tn, cmp_in_t, eqop_int, eqop_str, eqop_nn, eqop_ni, eqop_in, eqop_ns, eqop_sn, bin_add, bin_sub, idx_tup, bi_lent, bi_intb, getL0, getLs, seq0, seq1, seq2, seq3, List.map_cons, List.map_nil, List.cons_append, List.nil_append, List.set_cons_zero, List.set_cons_succ, List.length_cons, List.length_nil, Nat.reduceLT, Nat.reduceAdd, Nat.reduceSub, Nat.reduceEqDiff, if_true, if_false, decide_true, decide_false, Option.map_some, Option.map_none, Bool.not_true, Bool.not_false, getK, putK, List.replicate_succ, List.replicate_zero, true_and, and_true, List.isEmpty_nil, List.isEmpty_cons, asRef_ref, setO_list, Option.bind_some, bin_mod _ _ _ b15]
  exact fin fN _ n _ _ _ (Int.fmod_nonneg_of_pos _ (by decide)) rfl rfl
end
end Mine.L04

end
noncomputable section
namespace Mine.L04
open Mine

noncomputable def law : Law where
  fns := [mGoal, mEnt, mMill, mTook, mFault, mCall, mBack, mReck, mLeap, mPlain, mStep, mRun, fWhole, fCellAt, fNumber, fParts, fDue, fLaw]
  ws := [.ofString "append", .ofString "pop", .ofString "place", .ofString "boxes", .ofString "pile", .ofString "rows", .ofString "stretches", .ofString "begins", .ofString "turns", .ofString "said", .ofString "frames", .ofString "told", .ofString "took_turn", .ofString "fault", .ofString "call", .ofString "back", .ofString "reckon", .ofString "leap", .ofString "plain", .ofString "step", .ofString "put", .ofString "get", .ofString "set", .ofString "say", .ofString "add", .ofString "sub", .ofString "less", .ofString "share", .ofString "go", .ofString "nought", .ofString "on", .ofString "raise", .ofString "turn", .ofString "tired", .ofString "answer"]
  fnL := [21, 33, 54, 61, 68, 75, 82, 89, 96, 103, 110, 124, 131, 138, 145, 152, 159, 164]
  clsL := [36, 113]
  ats := [[2, 3, 4], [5, 6, 7, 3, 8, 9, 10, 11]]
  meths := [[], [(12, 3), (13, 4), (14, 5), (15, 6), (16, 7), (17, 8), (18, 9), (19, 10)]]
  inits := [some 1, some 2]
theorem lg : LG law.g := ⟨⟨rfl, rfl, rfl, rfl, rfl, rfl, rfl, rfl, rfl, rfl, rfl, rfl, rfl, rfl, rfl, rfl, rfl, rfl, rfl, rfl, rfl, rfl, rfl, rfl, rfl, rfl, rfl, rfl, rfl, rfl, rfl, rfl, rfl⟩, rfl, rfl, rfl, rfl, rfl, rfl⟩
theorem spec (ns : List Int) (hn : ns.length ≤ 63) : callWp law.g 598 17 [.ref 0] [.flist (ns.map .int)] (fun v _ => v = .bool true) (fun _ _ => False) := spec' lg 589 ns hn
end Mine.L04

end
noncomputable section
open PySem PySem.W PyProof.Rows
set_option maxHeartbeats 8000000
namespace Mine.L04
abbrev rwL : OpenLaw := PySem.Challenge.rw_uf010007_04
abbrev ads : List Addr := [2, 3, 15, 17, 18, 20, 21, 29, 32, 33, 34, 35, 36, 37, 38, 48, 50, 51, 53, 54, 55, 57, 58, 60, 61, 62, 64, 65, 67, 68, 69, 71, 72, 74, 75, 76, 78, 79, 81, 82, 83, 85, 86, 88, 89, 90, 92, 93, 95, 96, 97, 99, 100, 102, 103, 104, 106, 107, 109, 110, 111, 112, 113, 114, 115, 118, 120, 121, 123, 124, 125, 127, 128, 130, 131, 132, 134, 135, 137, 138, 139, 141, 142, 144, 145, 146, 148, 149, 151, 152, 153, 155, 156, 158, 159, 160, 163, 164]
theorem said : rwL.wellSaid = true := by kernel_rfl
theorem left : LeftO rwL.row.prog (viewOf rwL.row.prog) [] (xtOf rwL.row.prog rwL.row.toRowW) (lawHook law ads 164).obs (lawHook law ads 164).val 2160 := fun w => by kernel_rfl
theorem dfn : (defOf (viewOf rwL.row.prog) rwL.row.name).map (fun x => (x.1.name, some (x.1.params, x.1.body, x.1.scope), kwWritten? x.1.params.kwonlyargs x.1.params.kw_defaults, x.2)) = some (("law" : Str), rwL.row.prog.theDef rwL.row.name, some [], []) := by kernel_rfl
theorem okO : (chainsOk (viewOf rwL.row.prog) && opensWell rwL.row.prog && (frees rwL.row.toRowW && rwL.row.within.isEmpty)) = true := by kernel_rfl
theorem imps : importsNone (viewOf rwL.row.prog) = true := by kernel_rfl
theorem top (spec : ∀ ns : List Int, ns.length ≤ 63 → callWp law.g 598 17 [.ref 0] [.flist (ns.map .int)] (fun v _ => v = .bool true) (fun _ _ => False)) : PySem.Challenge.rw_uf010007_04.Holds := by
  refine holds_law said fun k1 => ?_
  refine row_holds left dfn rfl k1 okO ⟨rfl, rfl, rfl, rfl, rfl, by decide +kernel⟩ (by w_witness2) fun d hdn => ?_
  intro w s₀ s₁ mg mb G Y fa o pm cd doc dV kV ho hd hcd hD hmg hg args vals as hpre hlay hrd hwl hlo
  obtain ⟨K, KX, kgg, kfn, klw⟩ := Y
  refine Ground.open G ?_
  intro T B D TE TW
  have hfa : fa = 164 := by
    have e := mg_of KX T.g klw
    rw [hdn] at hmg
    rw [hmg] at e
    cases e; rfl
  subst hfa
  clear D TE TW hd hcd ho hD hmg
  wrow_args hpre hlay hrd hwl hlo
  rename_i hL _ _ _ hI _ hc _
  refine enter_call ?_
  refine codeAny_mono (law_run kgg kfn KX T.nolimit (T.seer imps) rfl ⟨_, T.g⟩ ⟨_, T.b, T.builtins⟩ (f := 17) rfl hL hI (by omega) (spec _ (by omega))) fun res s' z => ?_
  rcases res with e | (_ | _ | _ | v)
  · exact z.elim
  · exact z.elim
  · exact z.elim
  · exact z.elim
  · obtain ⟨rfl, z2, z3, z4⟩ := z
    refine GoodW.toG ⟨.inl ⟨.bool true, .bool true, [], rfl, ?_, .bool true, ?_, ?_⟩, z2, z3, z4.trans hg⟩
    · intro cls; rfl
    · first | kernel_rfl | (with_unfolding_all rfl)
    · intro _; exact ⟨List.nodup_nil, by simp⟩
end Mine.L04

end

theorem PySem.Challenge.cw_uf010007_04_holds : PySem.Challenge.rw_uf010007_04.Holds :=
  Mine.L04.top Mine.L04.spec
