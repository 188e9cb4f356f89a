import PyProof.Rows.All
import Wide.All
import OpenK.AllK
import Wide.FinOn
import PySem.Challenge.RW_uf010007_06
set_option Elab.async false
set_option maxRecDepth 100000
set_option linter.unusedVariables false
set_option linter.unusedSimpArgs false
set_option linter.unusedSectionVars false
set_option genInjectivity false
set_option genSizeOf false
set_option genSizeOfSpec false
set_option genCtorIdx false
set_option compiler.extract_closed false
set_option bootstrap.genMatcherCode false
set_option tactic.hygienic false
noncomputable section
namespace Mine
theorem nlt {a b c:Nat} (h:a ≤ b) (k:b ≤ c):a ≤ c:=Nat.le_trans h k
set_option genCtorIdx true in
inductive V where
  | none
  | bool (b:Bool)
  | int (i:Int)
  | str (w:Nat)
  | tup (xs:List V)
  | ref (a:Nat)
set_option genCtorIdx true in
inductive O where
  | list (xs:List V)
  | flist (xs:List V)
  | inst (c:Nat) (fs:List (Nat × V))
noncomputable abbrev Hp:=List O
set_option genCtorIdx true in
inductive B2 where | add | sub | mul | div | mod
set_option genCtorIdx true in
inductive C2 where | eq | ne | lt | le | gt | ge | is_ | isnot | in_
inductive Ty where | int | bool | str | tuple | list | own (c:Nat)
set_option genCtorIdx true in
inductive Bi where | len | int | list | tuple | max | min | sum
inductive ItK where | seq | range | rangeFrom (lo:Int) | rev | revRange | enum
inductive E where
  | none
  | bool (b:Bool)
  | int (i:Int)
  | str (w:Nat)
  | loc (i:Nat)
  | bin (op:B2) (a b:E)
  | not_ (a:E)
  | cmp (op:C2) (a b:E)
  | cmp2 (op1 op2:C2) (a b c:E)
  | and_ (a b:E)
  | or_ (a b:E)
  | tup (es:List E)
  | lst (es:List E)
  | idx (a i:E)
  | slc (a lo hi:E)
  | attr (a:E) (f:Nat)
  | call (f:Nat) (es:List E)
  | new (c:Nat) (es:List E)
  | meth (a:E) (m:Nat) (es:List E)
  | bi (b:Bi) (es:List E)
  | isi (a:E) (t:Ty)
  | comp (n:Nat) (cap:List (Nat × Nat)) (t:List Nat) (k:ItK) (src:E) (conds:List E) (elt:E)
inductive Tg where
  | loc (i:Nat)
  | attr (a:E) (f:Nat)
  | idx (a i:E)
  | unp (is:List Nat)
set_option genCtorIdx true in
inductive S where
  | skip
  | seq (a b:S)
  | expr (e:E)
  | asg (t:Tg) (e:E)
  | if_ (c:E) (a b:S)
  | while_ (c:E) (b:S)
  | for_ (t:List Nat) (k:ItK) (src:E) (b:S)
  | ret (e:E)
  | raise (c:Nat)
structure Fn where
  np:Nat
  n:Nat
  body:S
structure Genv where
  fn:Nat → Option Fn
  meth:Nat → Nat → Option Nat
  init:Nat → Option Nat
  sub:Nat → Nat → Bool
  at_:Nat → Nat → Bool
noncomputable abbrev lim:Nat:=16000000
noncomputable abbrev mAppend:Nat:=0
noncomputable abbrev mPop:Nat:=1
noncomputable abbrev Oracle:=Nat → List V → Hp → (V → Hp → Prop) → (Nat → Hp → Prop) → Prop
noncomputable def onSome {α:Type} (o:Option α) (k:α → Prop):Prop:=match o with
  | some a=>k a
  | none=>False
theorem onSome_some {α:Type} (a:α) (k:α → Prop):onSome (some a) k = k a:=rfl
noncomputable def V.asInt:V → Option Int
  | .int i=>some i
  | _=>Option.none
noncomputable def V.asStr:V → Option Nat
  | .str i=>some i
  | _=>Option.none
noncomputable def V.asTup:V → Option (List V)
  | .tup i=>some i
  | _=>Option.none
noncomputable def V.asRef:V → Option Nat
  | .ref i=>some i
  | _=>Option.none
noncomputable def V.asBool:V → Option Bool
  | .bool i=>some i
  | _=>Option.none
noncomputable def O.asL:O → Option (List V)
  | .list xs=>some xs
  | _=>none
noncomputable def O.items:O → Option (List V)
  | .list xs=>some xs
  | .flist xs=>some xs
  | _=>none
noncomputable def lstOf (v:V) (h:Hp):Option (List V):=v.asRef.bind fun a=>(h[a]?).bind O.asL
noncomputable def itmOf (v:V) (h:Hp):Option (List V):=v.asRef.bind fun a=>(h[a]?).bind O.items
noncomputable def seqAt (xs:List V) (i:Int):Option V:=if 0 ≤ i then xs[i.toNat]? else if 0 ≤ (xs.length:Int) + i then xs[((xs.length:Int) + i).toNat]? else none
noncomputable def setAt (xs:List V) (i:Int) (v:V):Option (List V):=if 0 ≤ i ∧ i < (xs.length:Int) then some (xs.set i.toNat v) else none
noncomputable def getK:List (Nat × V) → Nat → Option V
  | [],_=>none
  | (j,v) :: r,k=>if j = k then some v else getK r k
noncomputable def putK:List (Nat × V) → Nat → V → List (Nat × V)
  | [],k,v=>[(k,v)]
  | (j,u) :: r,k,v=>if j = k then (j,v) :: r else (j,u) :: putK r k v
noncomputable def small (i:Int):Bool:=decide (i.natAbs < 1152921504606846976)
noncomputable def repL (xs:List V):Nat → List V
  | 0=>[]
  | n + 1=>xs ++ repL xs n
noncomputable def intsV (a b:V) (f:Int → Int → Option (V × Hp)):Option (V × Hp):=a.asInt.bind fun x=>b.asInt.bind fun y=>f x y
noncomputable def binop (op:B2) (a b:V) (h:Hp):Option (V × Hp):=match op with
  | .add=>match a.asInt with
    | some x=>b.asInt.map fun y=>(.int (x + y),h)
    | none=>(lstOf a h).bind fun xs=>(lstOf b h).bind fun ys=>if xs.length + ys.length ≤ lim then some (.ref h.length,h ++ [.list (xs ++ ys)]) else none
  | .sub=>intsV a b fun x y=>some (.int (x - y),h)
  | .mul=>match a.asInt with
    | some x=>b.asInt.bind fun y=>if (small x || small y) = true then some (.int (x * y),h) else none
    | none=>(lstOf a h).bind fun xs=>b.asInt.bind fun n=>if n.natAbs ≤ lim ∧ xs.length * n.toNat ≤ lim then some (.ref h.length,h ++ [.list (repL xs n.toNat)]) else none
  | .div=>intsV a b fun x y=>if y ≠ 0 then some (.int (x.fdiv y),h) else none
  | .mod=>intsV a b fun x y=>if y ≠ 0 then some (.int (x.fmod y),h) else none
set_option genInjectivity true in
set_option genCtorIdx true in
inductive D where
  | none
  | int (i:Int)
  | str (w:Nat)
  | tup (xs:List D)
  | list (xs:List D)
noncomputable def mapO {α β:Type} (f:α → Option β):List α → Option (List β)
  | []=>some []
  | x :: xs=>match f x,mapO f xs with
    | some y,some ys=>some (y :: ys)
    | _,_=>none
noncomputable def rd:Nat → Hp → V → Option D
  | 0,_,_=>none
  | n + 1,h,v=>match v with
    | .none=>some .none
    | .int i=>some (.int i)
    | .str w=>some (.str w)
    | .tup xs=>(mapO (rd n h) xs).map .tup
    | .ref a=>match h[a]? with
      | some o=>match o.items with
        | some xs=>(mapO (rd n h) xs).map .list
        | none=>none
      | none=>none
    | _=>none
open Classical in
noncomputable def eqD (h:Hp) (a b:V):Option Bool:=match rd 60 h a,rd 60 h b with
  | some x,some y=>some (decide (x = y))
  | _,_=>none
noncomputable def eqop (a b:V) (h:Hp):Option Bool:=match a.asBool with
  | some x=>b.asBool.map fun y=>decide (x = y)
  | none=>eqD h a b
noncomputable def allStr:List V → Option (List Nat)
  | []=>some []
  | .str w :: r=>(allStr r).map (w :: ·)
  | _ :: _=>none
noncomputable def allInt:List V → Option (List Int)
  | []=>some []
  | .int i :: r=>(allInt r).map (i :: ·)
  | _ :: _=>none
noncomputable def inS:V → List V → Option Bool
  | .str a,xs=>(allStr xs).map fun ws=>decide (a ∈ ws)
  | .int a,xs=>(allInt xs).map fun ns=>decide (a ∈ ns)
  | _,_=>none
noncomputable def nilOf:V → Option Bool
  | .none=>some true
  | .int _=>some false
  | .str _=>some false
  | .tup _=>some false
  | .ref _=>some false
  | _=>none
noncomputable def isNil:V → Bool
  | .none=>true
  | _=>false
noncomputable def seqOf (v:V) (h:Hp):Option (List V):=match v.asTup with
  | some xs=>some xs
  | none=>lstOf v h
noncomputable def cmpop (op:C2) (a b:V) (h:Hp):Option Bool:=match op with
  | .eq=>eqop a b h
  | .ne=>(eqop a b h).map not
  | .lt=>a.asInt.bind fun x=>b.asInt.map fun y=>decide (x < y)
  | .le=>a.asInt.bind fun x=>b.asInt.map fun y=>decide (x ≤ y)
  | .gt=>a.asInt.bind fun x=>b.asInt.map fun y=>decide (y < x)
  | .ge=>a.asInt.bind fun x=>b.asInt.map fun y=>decide (y ≤ x)
  | .is_=>if isNil b = true then nilOf a else none
  | .isnot=>if isNil b = true then (nilOf a).map not else none
  | .in_=>(seqOf b h).bind (inS a)
noncomputable def idxO (o:O) (b:V):Option V:=match o.items with
  | some xs=>b.asInt.bind (seqAt xs)
  | none=>none
noncomputable def idxop (a b:V) (h:Hp):Option V:=match a.asTup with
  | some xs=>b.asInt.bind (seqAt xs)
  | none=>a.asRef.bind fun r=>(h[r]?).bind fun o=>idxO o b
noncomputable def setO (o:O) (i v:V):Option O:=match o.asL with
  | some xs=>i.asInt.bind fun n=>(setAt xs n v).map .list
  | none=>none
noncomputable def bnd:V → Option (Option Nat)
  | .none=>some none
  | .int i=>if 0 ≤ i then some (some i.toNat) else none
  | _=>none
noncomputable def cut (xs:List V) (lo hi:Option Nat):List V:=
  let ys:=match hi with | some n=>xs.take n | none=>xs
  match lo with | some n=>ys.drop n | none=>ys
noncomputable def slcop (v lo hi:V) (h:Hp):Option (V × Hp):=(bnd lo).bind fun l=>(bnd hi).bind fun u=>match v.asTup with
  | some _=>none
  | none=>(itmOf v h).map fun xs=>(.ref h.length,h ++ [.list (cut xs l u)])
noncomputable def arg1:List V → Option V
  | [v]=>some v
  | _=>none
noncomputable def arg2:List V → Option (V × V)
  | [v,w]=>some (v,w)
  | _=>none
noncomputable def lenOf (v:V) (h:Hp):Option Nat:=match v.asTup with
  | some xs=>some xs.length
  | none=>(itmOf v h).map List.length
noncomputable def intOf (v:V):Option Int:=match v.asBool with
  | some b=>some (if b then 1 else 0)
  | none=>v.asInt
noncomputable def biop (b:Bi) (vs:List V) (h:Hp):Option (V × Hp):=match b with
  | .len=>(arg1 vs).bind fun v=>(lenOf v h).map fun n:Nat=>(.int (n:Int),h)
  | .int=>(arg1 vs).bind fun v=>(intOf v).map fun i=>(.int i,h)
  | .list=>none
  | .tuple=>none
  | .max=>(arg2 vs).bind fun p=>p.1.asInt.bind fun a=>p.2.asInt.map fun b=>(.int (if a < b then b else a),h)
  | .min=>none
  | .sum=>none
noncomputable def Ty.code:Ty → Nat
  | .int=>0 | .bool=>1 | .str=>2 | .tuple=>3 | .list=>4 | .own _=>5
noncomputable def kindV (v:V) (h:Hp):Option Nat:=match v with
  | .int _=>some 0
  | _=>none
noncomputable def isiop (v:V) (t:Ty) (h:Hp):Option Bool:=(kindV v h).bind fun k=>if k ≠ 1 ∧ t.code < 5 then some (k == t.code) else if t.code < 2 then some true else none
noncomputable def rangeL (lo:Int):Nat → List V
  | 0=>[]
  | n + 1=>.int lo :: rangeL (lo + 1) n
noncomputable def enumL:Nat → List V → List V
  | _,[]=>[]
  | i,x :: xs=>.tup [.int i,x] :: enumL (i + 1) xs
noncomputable def itSeq (v:V) (h:Hp):Option (List V × (Hp → Prop)):=match v.asTup with
  | some _=>none
  | none=>v.asRef.bind fun a=>(h[a]?).bind fun o=>o.items.map fun xs=>(xs,fun h'=>h'[a]? = some o)
noncomputable def itRange (lo:Int) (v:V):Option (List V × (Hp → Prop)):=v.asInt.bind fun n=>if -1000 ≤ n ∧ n ≤ lim ∧ 0 ≤ lo ∧ lo ≤ lim then some (rangeL lo (n - lo).toNat,fun zz=>True) else none
noncomputable def itop (k:ItK) (v:V) (h:Hp):Option (List V × (Hp → Prop)):=match k with
  | .seq=>itSeq v h
  | .range=>itRange 0 v
  | .rangeFrom lo=>itRange lo v
  | .rev=>v.asRef.bind fun a=>((h[a]?).bind O.asL).map fun xs=>(xs.reverse,fun h'=>h'[a]? = some (.list xs))
  | .revRange=>(itRange 0 v).map fun p=>(p.1.reverse,p.2)
  | .enum=>v.asRef.bind fun a=>(h[a]?).bind fun o=>o.items.map fun xs=>(enumL 0 xs,fun h'=>h'[a]? = some o)
noncomputable abbrev Locs:=List (Option V)
noncomputable def bindAll:List Nat → List V → Locs → Option Locs
  | [],[],l=>some l
  | i :: is,v :: vs,l=>if i < l.length then bindAll is vs (l.set i (some v)) else none
  | _,_,_=>none
noncomputable def bindT:List Nat → V → Locs → Option Locs
  | [i],v,l=>if i < l.length then some (l.set i (some v)) else none
  | is,.tup vs,l=>bindAll is vs l
  | _,_,_=>none
noncomputable def getL (l:Locs) (i:Nat):Option V:=match l[i]? with
  | some (some v)=>some v
  | _=>none
noncomputable def capL:List (Nat × Nat) → Locs → Locs → Option Locs
  | [],_,l=>some l
  | (i,j) :: r,o,l=>match getL o j with
    | some v=>capL r o (l.set i (some v))
    | none=>none
noncomputable def isB:V → Option Bool
  | .bool b=>some b
  | _=>none
noncomputable def compWp (grd:Hp → Prop) (step:V → Locs → Hp → (Locs → List V → Hp → Prop) → Prop):List V → Locs → List V → Hp → (List V → Hp → Prop) → Prop
  | [],_,acc,h,K=>grd h ∧ K acc h
  | x :: xs,l,acc,h,K=>grd h ∧ step x l h (fun l' ys h'=>(acc ++ ys).length ≤ lim ∧ compWp grd step xs l' (acc ++ ys) h' K)
section
variable (g:Genv) (C N:Oracle)
mutual
noncomputable def wpE (loc:Locs):E → Hp → (V → Hp → Prop) → (Nat → Hp → Prop) → Prop
  | .none,h,Q,_=>Q .none h
  | .bool b,h,Q,_=>Q (.bool b) h
  | .int i,h,Q,_=>Q (.int i) h
  | .str w,h,Q,_=>Q (.str w) h
  | .loc i,h,Q,_=>onSome (getL loc i) fun v=>Q v h
  | .bin op a b,h,Q,X=>wpE loc a h (fun va h1=>wpE loc b h1 (fun vb h2=>onSome (binop op va vb h2) fun p=>Q p.1 p.2) X) X
  | .not_ a,h,Q,X=>wpE loc a h (fun v h1=>onSome (isB v) fun b=>Q (.bool (!b)) h1) X
  | .cmp op a b,h,Q,X=>wpE loc a h (fun va h1=>wpE loc b h1 (fun vb h2=>onSome (cmpop op va vb h2) fun r=>Q (.bool r) h2) X) X
  | .cmp2 o1 o2 a b c,h,Q,X=>wpE loc a h (fun va h1=>wpE loc b h1 (fun vb h2=>onSome (cmpop o1 va vb h2) fun r=>
      match r with
      | false=>Q (.bool false) h2
      | true=>wpE loc c h2 (fun vc h3=>onSome (cmpop o2 vb vc h3) fun r2=>Q (.bool r2) h3) X) X) X
  | .and_ a b,h,Q,X=>wpE loc a h (fun v h1=>onSome (isB v) fun r=>match r with | true=>wpE loc b h1 Q X | false=>Q (.bool false) h1) X
  | .or_ a b,h,Q,X=>wpE loc a h (fun v h1=>onSome (isB v) fun r=>match r with | true=>Q (.bool true) h1 | false=>wpE loc b h1 Q X) X
  | .tup es,h,Q,X=>wpEs loc es h (fun vs h1=>Q (.tup vs) h1) X
  | .lst es,h,Q,X=>wpEs loc es h (fun vs h1=>Q (.ref h1.length) (h1 ++ [.list vs])) X
  | .idx a i,h,Q,X=>wpE loc a h (fun va h1=>wpE loc i h1 (fun vi h2=>onSome (idxop va vi h2) fun v=>Q v h2) X) X
  | .slc a lo hi,h,Q,X=>wpE loc a h (fun va h1=>wpE loc lo h1 (fun vl h2=>wpE loc hi h2 (fun vh h3=>onSome (slcop va vl vh h3) fun p=>Q p.1 p.2) X) X) X
  | .attr a f,h,Q,X=>wpE loc a h (fun va h1=>match va with
      | .ref x=>match h1[x]? with
        | some (.inst c fs)=>g.at_ c f = true ∧ onSome (getK fs f) fun v=>Q v h1
        | _=>False
      | _=>False) X
  | .call f es,h,Q,X=>wpEs loc es h (fun vs h1=>C f vs h1 Q X) X
  | .new c es,h,Q,X=>wpEs loc es h (fun vs h1=>onSome (g.init c) fun f=>N f (.ref h1.length :: vs) (h1 ++ [.inst c []]) (fun v h2=>v = .none ∧ Q (.ref h1.length) h2) X) X
  | .meth a m es,h,Q,X=>wpE loc a h (fun va h1=>match va with
      | .ref x=>match h1[x]? with
        | some (.inst c _)=>onSome (g.meth c m) fun f=>wpEs loc es h1 (fun vs h2=>C f (.ref x :: vs) h2 Q X) X
        | some (.list xs)=>match es.isEmpty with
          | true=>m = mPop ∧ onSome xs.getLast? fun v=>Q v (h1.set x (.list xs.dropLast))
          | false=>m = mAppend ∧ wpEs loc es h1 (fun vs h2=>match vs with
            | [v]=>match h2[x]? with
              | some (.list ys)=>ys.length < lim ∧ Q .none (h2.set x (.list (ys ++ [v])))
              | _=>False
            | _=>False) X
        | _=>False
      | _=>False) X
  | .bi b es,h,Q,X=>wpEs loc es h (fun vs h1=>onSome (biop b vs h1) fun p=>Q p.1 p.2) X
  | .isi a t,h,Q,X=>wpE loc a h (fun v h1=>onSome (isiop v t h1) fun b=>Q (.bool b) h1) X
  | .comp n cap t k src conds elt,h,Q,X=>wpE loc src h (fun v h1=>onSome (itop k v h1) fun p=>onSome (capL cap loc (List.replicate n none)) fun l0=>
      compWp p.2 (fun x l h2 K=>onSome (bindT t x l) fun l1=>wpC l1 conds h2 (fun b h3=>match b with
        | true=>wpE l1 elt h3 (fun y h4=>K l1 [y] h4) X
        | false=>K l1 [] h3) X) p.1 l0 [] h1 (fun ys h5=>Q (.ref h5.length) (h5 ++ [.list ys]))) X
noncomputable def wpEs (loc:Locs):List E → Hp → (List V → Hp → Prop) → (Nat → Hp → Prop) → Prop
  | [],h,Q,_=>Q [] h
  | e :: es,h,Q,X=>wpE loc e h (fun v h1=>wpEs loc es h1 (fun vs h2=>Q (v :: vs) h2) X) X
noncomputable def wpC (loc:Locs):List E → Hp → (Bool → Hp → Prop) → (Nat → Hp → Prop) → Prop
  | [],h,Q,_=>Q true h
  | e :: es,h,Q,X=>wpE loc e h (fun v h1=>onSome (isB v) fun r=>match r with | true=>wpC loc es h1 Q X | false=>Q false h1) X
end
structure St where
  loc:Locs
  hp:Hp
noncomputable def forWp (grd:Hp → Prop) (step:V → St → (St → Prop) → Prop):List V → St → (St → Prop) → Prop
  | [],σ,K=>grd σ.hp ∧ K σ
  | x :: xs,σ,K=>grd σ.hp ∧ step x σ (fun σ'=>forWp grd step xs σ' K)
noncomputable def wpTg (σ:St) (v:V) (KN:St → Prop) (X:Nat → Hp → Prop):Tg → Prop
  | .loc i=>i < σ.loc.length ∧ KN ⟨σ.loc.set i (some v),σ.hp⟩
  | .attr a f=>wpE g C N σ.loc a σ.hp (fun va h=>match va with
      | .ref x=>match h[x]? with
        | some (.inst c fs)=>g.at_ c f = true ∧ fs.length < 400 ∧ KN ⟨σ.loc,h.set x (.inst c (putK fs f v))⟩
        | _=>False
      | _=>False) X
  | .idx a i=>wpE g C N σ.loc a σ.hp (fun va h=>wpE g C N σ.loc i h (fun vi h2=>onSome va.asRef fun x=>onSome ((h2[x]?).bind fun o=>setO o vi v) fun o'=>KN ⟨σ.loc,h2.set x o'⟩) X) X
  | .unp is=>match v with
      | .tup vs=>onSome (bindAll is vs σ.loc) fun l=>KN ⟨l,σ.hp⟩
      | _=>False
noncomputable def wpS:S → St → (St → Prop) → (V → Hp → Prop) → (Nat → Hp → Prop) → Prop
  | .skip,σ,KN,_,_=>KN σ
  | .seq a b,σ,KN,KR,X=>wpS a σ (fun σ'=>wpS b σ' KN KR X) KR X
  | .expr e,σ,KN,_,X=>wpE g C N σ.loc e σ.hp (fun zz h=>KN ⟨σ.loc,h⟩) X
  | .asg t e,σ,KN,_,X=>wpE g C N σ.loc e σ.hp (fun v h=>wpTg g C N ⟨σ.loc,h⟩ v KN X t) X
  | .if_ c a b,σ,KN,KR,X=>wpE g C N σ.loc c σ.hp (fun v h=>onSome (isB v) fun r=>match r with
      | true=>wpS a ⟨σ.loc,h⟩ KN KR X
      | false=>wpS b ⟨σ.loc,h⟩ KN KR X) X
  | .while_ c b,σ,KN,KR,X=>∀ P:St → Prop,(∀ σ,wpE g C N σ.loc c σ.hp (fun v h=>onSome (isB v) fun r=>match r with
      | true=>wpS b ⟨σ.loc,h⟩ P KR X
      | false=>KN ⟨σ.loc,h⟩) X → P σ) → P σ
  | .for_ t k src b,σ,KN,KR,X=>wpE g C N σ.loc src σ.hp (fun v h=>onSome (itop k v h) fun p=>
      forWp p.2 (fun x σ K=>onSome (bindT t x σ.loc) fun l=>wpS b ⟨l,σ.hp⟩ K KR X) p.1 ⟨σ.loc,h⟩ KN) X
  | .ret e,σ,_,KR,X=>wpE g C N σ.loc e σ.hp KR X
  | .raise c,σ,_,_,X=>X c σ.hp
end
noncomputable def bot:Oracle:=fun zz zz zz zz zz=>False
noncomputable def stepC (g:Genv) (C N:Oracle):Oracle:=fun f vs h Q X=>onSome (g.fn f) fun fn=>vs.length = fn.np ∧ fn.np ≤ fn.n ∧
  wpS g C N fn.body ⟨vs.map some ++ List.replicate (fn.n - fn.np) none,h⟩ (fun σ=>Q .none σ.hp) Q X
noncomputable def callWp (g:Genv):Nat → Oracle
  | 0=>bot
  | 1=>stepC g bot bot
  | r + 2=>stepC g (callWp g (r + 1)) (callWp g r)
end Mine
end
noncomputable section
namespace Mine
open PySem PySem.W PyProof.Rows
noncomputable def foldedPlain (e:PySem.Expr):Bool:=!(e.ctorIdx == 7)
noncomputable def opB:Operator → Option B2
  | .Add=>some .add | .Sub=>some .sub | .Mult=>some .mul | .FloorDiv=>some .div | .Mod=>some .mod | _=>none
noncomputable def opC:CmpOp → Option C2
  | .Eq=>some .eq | .NotEq=>some .ne | .Lt=>some .lt | .LtE=>some .le | .Gt=>some .gt | .GtE=>some .ge
  | .Is=>some .is_ | .IsNot=>some .isnot | .In=>some .in_ | .NotIn=>none
noncomputable def notStar (e:PySem.Expr):Bool:=!(e.ctorIdx == 22)
noncomputable def notSlice (e:PySem.Expr):Bool:=!(e.ctorIdx == 26)
noncomputable def clsOk (K : Frag) (C : Addr) : Bool := plainGet K C Str.empty && hasDictIn K C && makesIn K C && plainOver K C && findIn K (.ref C) "__setattr__" == some (some (.builtin "object.__setattr__")) && keepIn K (.ref C)
noncomputable def notCall (e:PySem.Expr):Bool:=!(e.ctorIdx == 16)
noncomputable def notComp (e:PySem.Expr):Bool:=!(e.ctorIdx == 8 || e.ctorIdx == 9 || e.ctorIdx == 10)
noncomputable def notTuple (e:PySem.Expr):Bool:=!(e.ctorIdx == 25)
noncomputable def plainPs (p:Arguments):Option (List Str):=if (p.posonlyargs.isEmpty && p.vararg.isNone && p.kwonlyargs.isEmpty && p.kwarg.isNone) = true then some (p.args.map (·.arg)) else none
noncomputable def kindL (k:NameKind):Bool:=k == .local || k == .cell || k == .free
noncomputable def slotsOf (ps:List Str) (sc:Scope):List (Str × NameKind):=ps.map (fun x=>(x,(sc.names.lookup x).getD .local)) ++ sc.names.filter (fun p=>kindL p.2 && !ps.contains p.1)
noncomputable def slotsOk (names : List (Str × NameKind)) (sc : Scope) : Bool := (names.all fun p => sc.names.lookup p.1 == some p.2 && kindL p.2 && !(p.1 == ("__debug__" : Str)) && !(p.1 == ("__classdict__" : Str))) && decide (names.map (·.1)).Nodup
noncomputable def paramsOk (ps:List Str) (names:List (Str × NameKind)) (sc:Scope):Bool:=((names.take ps.length).map (·.1) == ps) && ((names.take ps.length).all fun p=>p.2 == .local || p.2 == .cell) && decide ((sc.names.filter fun p=>p.2 == .cell).map (·.1)).Nodup
  && sc.kind == .function && !sc.isCoroutine && !sc.isGenerator && (names.all fun p=>!(p.2 == .free))
noncomputable def relS (scope:Scope):Scope:={ scope with names:=scope.names.map fun p=>if p.2 == .free then (p.1,.cell) else p }
noncomputable def compOk (scope:Scope) (names:List (Str × NameKind)):Bool:=scope.kind == .function && !scope.isGenerator && !scope.isCoroutine && (scope.names.all fun p=>!(p.2 == .cell) && (!(p.2 == .free) || names.contains (p.1,.cell)) && (!(p.2 == .local) || scope.names.lookup p.1 == some .local)) && decide ((scope.names.filter fun p=>p.2 == .free).map (·.1)).Nodup
noncomputable def compNames (scope:Scope):List (Str × NameKind):=(relS scope).names.filter fun p=>kindL p.2
noncomputable def idxOf (x:Str × NameKind):List (Str × NameKind) → Nat
  | []=>0
  | y :: r=>if y == x then 0 else idxOf x r + 1
noncomputable def capOf (names:List (Str × NameKind)):Nat → List (Str × NameKind) → List (Nat × Nat)
  | _,[]=>[]
  | i,(x,k) :: r=>if k == .cell then (i,idxOf (x,k) names) :: capOf names (i + 1) r else capOf names (i + 1) r
noncomputable def capOk (cap:List (Nat × Nat)) (cn names:List (Str × NameKind)):Bool:=cap.all fun p=>match cn[p.1]?,names[p.2]? with
  | some (x,k),some (y,k')=>x == y && k == .cell && k' == .cell
  | _,_=>false
structure Cx where
  K:Frag
  ws:List Str
  fnL:List Addr
  clsL:List Addr
noncomputable def idxStr (x:Str):List Str → Option Nat
  | []=>none
  | y :: r=>if x == y then some 0 else (idxStr x r).map (· + 1)
noncomputable def idxAddr (x:Addr):List Addr → Option Nat
  | []=>none
  | y :: r=>match idxAddr x r with
    | some i=>some (i + 1)
    | none=>if x == y then some 0 else none
noncomputable def idxName (x:Str):List (Str × NameKind) → Option (Nat × NameKind)
  | []=>none
  | y :: r=>if x == y.1 then some (0,y.2) else (idxName x r).map fun p=>(p.1 + 1,p.2)
noncomputable def isGl (sc : Scope) (x : Str) : Bool := sc.names.lookup x == some .globalImplicit && !(x == ("__debug__" : Str))
noncomputable def biOf (x : Str) : Option Bi := if x == "len" then some .len else if x == "int" then some .int else if x == "list" then some .list else if x == "tuple" then some .tuple else if x == "max" then some .max else if x == "min" then some .min else if x == "sum" then some .sum else none
noncomputable def tyOf (x : Str) : Option Ty := if x == "int" then some .int else if x == "bool" then some .bool else none
noncomputable def cstV:(e:PySem.Expr) → Option { x:Const × Nat × Pos // e = .Constant x.1 x.2.1 x.2.2 }
  | .Constant c k p=>some ⟨(c,k,p),rfl⟩
  | _=>none
noncomputable def intC:Const → Option Int
  | .int a=>some a
  | _=>none
noncomputable def constI (e:PySem.Expr):Option Int:=(cstV e).bind fun x=>intC x.1.1
noncomputable def nmV:(e:PySem.Expr) → Option { x:Str × Pos // e = .Name x.1 x.2 }
  | .Name x p=>some ⟨(x,p),rfl⟩
  | _=>none
noncomputable def nmE (e:PySem.Expr):Option (Str × Pos):=(nmV e).map (·.1)
noncomputable def tupV:(e:PySem.Expr) → Option { x:List PySem.Expr × Nat × Pos // e = .Tuple x.1 x.2.1 x.2.2 }
  | .Tuple es k p=>some ⟨(es,k,p),rfl⟩
  | _=>none
noncomputable def tupE (e:PySem.Expr):Option (List PySem.Expr × Nat × Pos):=(tupV e).map (·.1)
noncomputable def callV:(e:PySem.Expr) → Option { x:PySem.Expr × List PySem.Expr × List Keyword × Pos // e = .Call x.1 x.2.1 x.2.2.1 x.2.2.2 }
  | .Call f es kws p=>some ⟨(f,es,kws,p),rfl⟩
  | _=>none
noncomputable def callA (e:PySem.Expr):Option (PySem.Expr × List PySem.Expr × List Keyword × Pos):=(callV e).map (·.1)
noncomputable def atV:(e:PySem.Expr) → Option { x:PySem.Expr × Str × Pos // e = .Attribute x.1 x.2.1 x.2.2 }
  | .Attribute a x p=>some ⟨(a,x,p),rfl⟩
  | _=>none
noncomputable def lcV:(e:PySem.Expr) → Option { x:PySem.Expr × List Comprehension × Scope × Pos // e = .ListComp x.1 x.2.1 x.2.2.1 x.2.2.2 }
  | .ListComp a b c d=>some ⟨(a,b,c,d),rfl⟩
  | _=>none
noncomputable def single {α:Type}:List α → Option α
  | [e]=>some e
  | _=>none
noncomputable def powOf (a:PySem.Expr) (op:Operator) (b:PySem.Expr):Option Mine.E:=if op = .Pow then (constI a).bind fun x=>(constI b).bind fun y=>if 1 ≤ y ∧ 2 ≤ x ∧ Builtin.Int.intTooBig (((Builtin.Int.intBits x:Nat):Int) * y) = false then some (.int (x ^ y.toNat)) else none else none
noncomputable def ctOf (cx:Cx):Const → Option Mine.E
  | .none=>some .none
  | .bool b=>some (.bool b)
  | .int i=>some (.int i)
  | .str s=>(idxStr s cx.ws).map .str
  | _=>none
noncomputable def nmOf (cx:Cx) (names:List (Str × NameKind)) (sc:Scope) (x:Str):Option Mine.E:=match idxName x names with
  | some p=>some (.loc p.1)
  | none=>if isGl sc x then match nsIn cx.K mainGlobals x with
    | some (some (.int i _))=>some (.int i)
    | _=>none else none
noncomputable def tgsOf (b:Bool) (names:List (Str × NameKind)):List PySem.Expr → Option (List Nat)
  | []=>some []
  | e :: es=>(nmE e).bind fun x=>(idxName x.1 names).bind fun p=>(tgsOf b names es).bind fun is=>if (p.2 == .local || (!b && p.2 == .cell)) = true then some (p.1 :: is) else none
noncomputable def tgOf (b:Bool) (names:List (Str × NameKind)) (e:PySem.Expr):Option (List Nat):=match nmE e with
  | some _=>tgsOf b names [e]
  | none=>(tupE e).bind fun t=>(tgsOf b names t.1).bind fun is=>if 2 ≤ is.length then some is else none
set_option genCtorIdx true in
inductive Head where
  | fn (f:Nat)
  | cls (c:Nat)
  | bi (b:Bi)
  | isi
noncomputable def hdOf (cx:Cx) (sc:Scope) (x:Str):Option Head:=if isGl sc x then match nsIn cx.K mainGlobals x with
    | some (some (.ref a))=>match idxAddr a cx.fnL with
      | some f=>some (.fn f)
      | none=>match idxAddr a cx.clsL with
        | some c=>some (.cls c)
        | none=>none
    | some none => if x == "isinstance" then some .isi else (biOf x).map .bi
    | _=>none else none
noncomputable def isiOf (cx:Cx) (sc:Scope) (t:PySem.Expr):Option Ty:=(nmE t).bind fun x=>if (isGl sc x.1 && nsIn cx.K mainGlobals x.1 == some none) = true then tyOf x.1 else none
set_option genCtorIdx true in
inductive CallK where
  | name (x:Str)
  | meth (a:PySem.Expr) (x:Str) (ap:Pos)
  | no
noncomputable def callF (e:PySem.Expr):CallK:=match nmV e with
  | some x=>.name x.1.1
  | none=>match atV e with
    | some x=>.meth x.1.1 x.1.2.1 x.1.2.2
    | none=>.no
noncomputable def callK (f:PySem.Expr) (kws:List Keyword):CallK:=if kws.isEmpty then callF f else .no
noncomputable def joinB:BoolOp → Mine.E → Mine.E → Mine.E
  | .And=>.and_
  | .Or=>.or_
noncomputable def boolOf (op:BoolOp):List Mine.E → Option Mine.E
  | []=>none
  | i :: r=>if r.isEmpty then some i else (boolOf op r).map (joinB op i)
noncomputable def cmp1 (op:CmpOp) (i j:Mine.E):Option Mine.E:=(opC op).map fun o=>.cmp o i j
noncomputable def cmp2 (o1 o2:CmpOp) (i j k:Mine.E):Option Mine.E:=(opC o1).bind fun c1=>(opC o2).map fun c2=>.cmp2 c1 c2 i j k
noncomputable def pair {α:Type}:List α → Option (α × α)
  | a :: r=>(single r).map fun b=>(a,b)
  | []=>none
noncomputable def cmpOf (ops:List CmpOp) (i:Mine.E) (js:List Mine.E):Option Mine.E:=match single ops with
  | some op=>(single js).bind fun j=>cmp1 op i j
  | none=>(pair ops).bind fun o=>(pair js).bind fun j=>cmp2 o.1 o.2 i j.1 j.2
noncomputable def unOf (op:PySem.UnaryOp) (a:PySem.Expr) (i:Option Mine.E):Option Mine.E:=match op with
  | .Not=>i.map .not_
  | .USub=>(constI a).map fun a=>.int (-a)
  | _=>none
noncomputable def slV:(e:PySem.Expr) → Option { x:Option PySem.Expr × Option PySem.Expr × Option PySem.Expr × Pos // e = .Slice x.1 x.2.1 x.2.2.1 x.2.2.2 }
  | .Slice lo hi st p=>some ⟨(lo,hi,st,p),rfl⟩
  | _=>none
noncomputable def slcParts (b:PySem.Expr):Option (Option PySem.Expr × Option PySem.Expr):=(slV b).bind fun x=>match x.1.2.2.1 with
  | none=>some (x.1.1,x.1.2.1)
  | some _=>none
noncomputable def oneGen:List Comprehension → Option Comprehension
  | [g]=>if g.is_async = 0 then some g else none
  | _=>none
noncomputable def isiArgs:List PySem.Expr → Option (PySem.Expr × PySem.Expr)
  | [a,t]=>some (a,t)
  | _=>none
noncomputable def isName' (cx:Cx) (sc:Scope) (nm x:Str):Bool:=x == nm && isGl sc x && nsIn cx.K mainGlobals x == some none
noncomputable def nameCall (cx:Cx) (sc:Scope) (nm:Str) (e:PySem.Expr):Option PySem.Expr:=(callA e).bind fun c=>(single c.2.1).bind fun a=>match callK c.1 c.2.2.1 with
  | .name x=>if isName' cx sc nm x = true then some a else none
  | _=>none
noncomputable def argOf (cx:Cx) (sc:Scope) (nm:Str) (e:PySem.Expr):Option PySem.Expr:=(nameCall cx sc nm e).bind fun a=>if notStar a = true then some a else none
noncomputable def rangeArg (cx : Cx) (sc : Scope) (e : PySem.Expr) : Option PySem.Expr := argOf cx sc "range" e
noncomputable def cStrV:(c:Const) → Option { a:Str // c = .str a }
  | .str a=>some ⟨a,rfl⟩
  | _=>none
noncomputable def constV (e:PySem.Expr):Option { x:Str × Nat × Pos // e = .Constant (.str x.1) x.2.1 x.2.2 }:=(cstV e).bind fun x=>(cStrV x.1.1).map fun y=>⟨(y.1,x.1.2.1,x.1.2.2),by rw [← y.2]; exact x.2⟩
noncomputable def tgFits (k:ItK) (t:PySem.Expr):Bool:=match k with
  | .enum=>(tupE t).isSome
  | _=>true
noncomputable def plainT (e:PySem.Expr):Bool:=e.ctorIdx == 16 || e.ctorIdx == 23 || e.ctorIdx == 19 || e.ctorIdx == 20 || e.ctorIdx == 21
noncomputable def o2 (f:Mine.E → Mine.E → Mine.E) (a b:Option Mine.E):Option Mine.E:=a.bind fun i=>b.map fun j=>f i j
noncomputable def o3 (f:Mine.E → Mine.E → Mine.E → Mine.E) (a b c:Option Mine.E):Option Mine.E:=a.bind fun i=>b.bind fun j=>c.map fun k=>f i j k
noncomputable def compGood (scope:Scope) (names:List (Str × NameKind)) (iter:PySem.Expr):Bool:=compOk scope names && slotsOk (compNames scope) (relS scope) && capOk (capOf names 0 (compNames scope)) (compNames scope) names && foldedPlain iter
noncomputable def headE (h:Head) (is:List Mine.E):Option Mine.E:=match h with
  | .fn f=>some (.call f is)
  | .cls c=>some (.new c is)
  | .bi b=>some (.bi b is)
  | .isi=>none
structure FnP where
  params:Arguments
  body:List Stmt
  scope:Scope
  cdv:Value
inductive FnO:Obj → FnP → Str → Prop
  | mk {oc:Value} {od:Option Addr} {osl:Array (Option Value)} {name qual:Str} {params:Arguments} {body:List Stmt} {scope:Scope} {kV doc pm cdv ct:Value} {an:Option Addr}:FnO ⟨oc,od,.func (fnOf name qual params body scope .none kV doc pm an cdv ct),osl⟩ ⟨params,body,scope,cdv⟩ qual
inductive FnR (K:Frag) (a:Addr) (F:FnP):Prop
  | mk {oc:Value} {od:Option Addr} {osl:Array (Option Value)} {name qual:Str} {kV doc pm ct:Value} {an:Option Addr}:K.lookup a = some ⟨oc,od,.func (fnOf name qual F.params F.body F.scope .none kV doc pm an F.cdv ct),osl⟩ → codeIn K F.cdv qual = true → FnR K a F
theorem fn_mk {K:Frag} {a:Addr} {o:Obj} {F:FnP} {q:Str} (f:FnO o F q):K.lookup a = some o → codeIn K F.cdv q = true → FnR K a F:=FnO.rec (motive:=fun o F q zz=>K.lookup a = some o → codeIn K F.cdv q = true → FnR K a F) (fun h hc=>.mk h hc) f
noncomputable def optE {α:Type}:(o:Option α) → Option { a:α // o = some a }
  | some a=>some ⟨a,rfl⟩
  | none=>none
noncomputable def fnV:(o:Obj) → Option { x:FnP × Str // FnO o x.1 x.2 }
  | ⟨_,_,.func { name:=_,qualname:=qual,params:=params,body:=.stmts body,scope:=scope,globals:=gl,closure:=[],defaults:=.none,kwdefaults:=_,doc:=_,pyModule:=_,annotations:=_,code:=cdv,closureTuple:=_,builtins:=bn },_⟩=>
    if h:gl = mainGlobals ∧ bn = builtinsNs then some ⟨(⟨params,body,scope,cdv⟩,qual),by rw [h.1,h.2]; exact .mk⟩ else none
  | _=>none
noncomputable def fnAt (K:Frag) (a:Addr):Option { F:FnP // FnR K a F }:=(optE (K.lookup a)).bind fun o=>(fnV o.1).bind fun x=>if h:codeIn K x.1.1.cdv x.1.2 = true then some ⟨x.1.1,fn_mk x.2 o.2 h⟩ else none
section
variable (cx:Cx)
mutual
noncomputable def compE (names:List (Str × NameKind)) (sc:Scope):Nat → PySem.Expr → Option Mine.E
  | 0,_=>none
  | n + 1,e=>match e with
    | .Constant c _ _=>ctOf cx c
    | .Name x _=>nmOf cx names sc x
    | .BinOp a op b _=>match powOf a op b with
      | some i=>some i
      | none=>(opB op).bind fun o=>o2 (.bin o) (compE names sc n a) (compE names sc n b)
    | .UnaryOp op a _=>unOf op a (compE names sc n a)
    | .Compare a ops cs _=>if lastMarks ops cs = false then (compE names sc n a).bind fun i=>(compEs names sc n cs).bind fun js=>cmpOf ops i js else none
    | .BoolOp op es _=>(compEs names sc n es).bind (boolOf op)
    | .Tuple es _ _=>if es.length ≤ lim then (compEs names sc n es).map .tup else none
    | .List es _=>if es.length ≤ lim then (compEs names sc n es).map .lst else none
    | .Subscript a b _=>match slcParts b with
      | some p=>o3 .slc (compE names sc n a) (compO names sc n p.1) (compO names sc n p.2)
      | none=>if notSlice b = true then o2 .idx (compE names sc n a) (compE names sc n b) else none
    | .Attribute a x _=>if notCall a = true then (compE names sc n a).bind fun i=>(idxStr x cx.ws).map fun f=>.attr i f else none
    | .Call f es kws pos=>match callK f kws with
      | .name x=>match hdOf cx sc x with
        | some .isi=>(isiArgs es).bind fun p=>if notStar p.1 = true then (compE names sc n p.1).bind fun i=>(isiOf cx sc p.2).map fun t=>.isi i t else none
        | some h=>(compEs names sc n es).bind (headE h)
        | none=>none
      | .meth a x ap=>if notCall a = true ∧ es.length < 30 ∧ (ap.endLine == pos.line) = true then (compE names sc n a).bind fun i=>(idxStr x cx.ws).bind fun m=>(compEs names sc n es).map fun is=>.meth i m is else none
      | .no=>none
    | .ListComp elt gens scope _=>(oneGen gens).bind fun g=>if compGood scope names g.iter = true then
        (compI names sc n g.iter).bind fun ki=>if tgFits ki.1 g.target = true then (tgOf true (compNames scope) g.target).bind fun is=>(compTs (compNames scope) (relS scope) n g.ifs).bind fun ics=>(compE (compNames scope) (relS scope) n elt).map fun ie=>
          .comp (compNames scope).length (capOf names 0 (compNames scope)) is ki.1 ki.2 ics ie else none else none
    | _=>none
noncomputable def compO (names:List (Str × NameKind)) (sc:Scope):Nat → Option PySem.Expr → Option Mine.E
  | 0,_=>none
  | n + 1,e=>match e with
    | none=>some .none
    | some e=>compE names sc n e
noncomputable def compEs (names:List (Str × NameKind)) (sc:Scope):Nat → List PySem.Expr → Option (List Mine.E)
  | 0,_=>none
  | n + 1,es=>match es with
    | []=>some []
    | e :: es=>if notStar e = true then (compE names sc n e).bind fun i=>(compEs names sc n es).map fun is=>i :: is else none
noncomputable def compTs (names:List (Str × NameKind)) (sc:Scope):Nat → List PySem.Expr → Option (List Mine.E)
  | 0,_=>none
  | n + 1,es=>match es with
    | []=>some []
    | e :: es=>(compT names sc n e).bind fun i=>(compTs names sc n es).map fun is=>i :: is
noncomputable def compI (names:List (Str × NameKind)) (sc:Scope):Nat → PySem.Expr → Option (ItK × Mine.E)
  | 0,_=>none
  | n + 1,e=>match rangeArg cx sc e with
    | some a=>(compE names sc n a).map fun i=>(.range,i)
    | none => match argOf cx sc "reversed" e with
      | some a=>(compE names sc n a).map fun i=>(.rev,i)
      | none=>(compE names sc n e).map fun i=>(.seq,i)
noncomputable def compT (names:List (Str × NameKind)) (sc:Scope):Nat → PySem.Expr → Option Mine.E
  | 0,_=>none
  | n + 1,e=>match e with
    | .UnaryOp op a _=>if op = .Not then (compT names sc n a).map .not_ else none
    | .Compare a ops cs _=>if lastMarks ops cs = false then (compE names sc n a).bind fun i=>(compEs names sc n cs).bind fun js=>cmpOf ops i js else none
    | .BoolOp op es _=>(compTs names sc n es).bind (boolOf op)
    | e=>if plainT e = true then compE names sc n e else none
end
noncomputable abbrev vErr : List Value := [.type "ValueError", .type "Exception", .type "BaseException", .type "object"]
noncomputable def singleV {α:Type}:(l:List α) → Option { a:α // l = [a] }
  | [a]=>some ⟨a,rfl⟩
  | _=>none
noncomputable def refC:(o:Option (Option Value)) → Option { C:Addr // o = some (some (.ref C)) }
  | some (some (.ref C))=>some ⟨C,rfl⟩
  | _=>none
inductive RaiseR (cx:Cx) (sc:Scope):Option PySem.Expr → Option PySem.Expr → Mine.S → Prop
  | mk {x : Str} {np cp cpos : Pos} {m : Str} {k w : Nat} {C : Addr} : isGl sc x = true → nsIn cx.K mainGlobals x = some (some (.ref C)) → excIn cx.K C vErr "ValueError.__new__" = true → cx.ws[w]? = some x → RaiseR cx sc (some (.Call (.Name x np) [.Constant (.str m) k cp] [] cpos)) none (.raise w)
theorem raise_mk {cx:Cx} {sc:Scope} {exc cause:Option PySem.Expr} {e f a:PySem.Expr} {as:List PySem.Expr} {ks:List Keyword} {pos np cp:Pos} {x m:Str} {k w:Nat} {C:Addr} (h1:exc = some e) (h2:e = .Call f as ks pos) (h3:f = .Name x np) (h4:as = [a]) (h5:a = .Constant (.str m) k cp) (h6:nsIn cx.K mainGlobals x = some (some (.ref C)))
    (h : (cause = none ∧ ks.isEmpty = true) ∧ isGl sc x = true ∧ excIn cx.K C vErr "ValueError.__new__" = true ∧ cx.ws[w]? = some x) : RaiseR cx sc exc cause (.raise w) := by
  obtain ⟨⟨k1,k2⟩,k3,k4,k5⟩:=h
  subst h1 h2 h3 h4 h5 k1
  rw [List.isEmpty_iff.mp k2]
  exact .mk k3 h6 k4 k5
noncomputable def raiseV (sc:Scope) (exc cause:Option PySem.Expr):Option { i:Mine.S // RaiseR cx sc exc cause i }:=(optE exc).bind fun e=>(callV e.1).bind fun c=>(nmV c.1.1).bind fun x=>(singleV c.1.2.1).bind fun a=>(constV a.1).bind fun m=>(refC (nsIn cx.K mainGlobals x.1.1)).bind fun C=>(idxStr x.1.1 cx.ws).bind fun w=>
  if h : (cause = none ∧ c.1.2.2.1.isEmpty = true) ∧ isGl sc x.1.1 = true ∧ excIn cx.K C.1 vErr "ValueError.__new__" = true ∧ cx.ws[w]? = some x.1.1 then some ⟨.raise w, raise_mk e.2 c.2 x.2 a.2 m.2 C.2 h⟩ else none
noncomputable def raiseOf (sc:Scope) (exc cause:Option PySem.Expr):Option Mine.S:=(raiseV cx sc exc cause).map (·.1)
noncomputable def isComp (e:PySem.Expr):Bool:=(lcV e).isSome
noncomputable def asgOf (names:List (Str × NameKind)) (e:PySem.Expr) (x:Str) (i:Option Mine.E):Option Mine.S:=match idxName x names with
  | some p=>if (p.2 == .local || p.2 == .cell) && (isComp e || notComp e) then i.map fun i=>.asg (.loc p.1) i else none
  | none=>none
noncomputable def oneTg:List PySem.Expr → Option PySem.Expr
  | [t]=>some t
  | _=>none
mutual
noncomputable def compS (names:List (Str × NameKind)) (sc:Scope):Nat → Stmt → Option Mine.S
  | 0,_=>none
  | n + 1,st=>match st with
    | .Pass _=>some .skip
    | .Expr e _=>if notComp e = true ∧ (callV e).isSome = true then (compE cx names sc n e).map .expr else none
    | .Return e _=>match e with
      | some e=>(compE cx names sc n e).map .ret
      | none=>some (.ret .none)
    | .If c a b _=>(compT cx names sc n c).bind fun i=>(compSs names sc n a).bind fun j=>(compSs names sc n b).map fun k=>.if_ i j k
    | .Raise e c _=>raiseOf cx sc e c
    | .While c b e _=>if e.isEmpty then (compT cx names sc n c).bind fun i=>(compSs names sc n b).map fun j=>.while_ i j else none
    | .For t iter b e _=>if e.isEmpty && foldedPlain iter then (tgOf false names t).bind fun is=>(compI cx names sc n iter).bind fun ki=>if tgFits ki.1 t = true then (compSs names sc n b).map fun j=>.for_ is ki.1 ki.2 j else none else none
    | .Assign ts e _=>match oneTg ts with
      | none=>none
      | some t=>match t with
        | .Name x _=>asgOf names e x (compE cx names sc n e)
        | .Attribute o x _=>if notComp e = true then (compE cx names sc n e).bind fun i=>(compE cx names sc n o).bind fun io=>(idxStr x cx.ws).map fun f=>.asg (.attr io f) i else none
        | .Subscript o ix _=>if notComp e = true then (compE cx names sc n e).bind fun i=>(compE cx names sc n o).bind fun io=>(compE cx names sc n ix).map fun ii=>.asg (.idx io ii) i else none
        | .Tuple es _ _=>if notComp e = true ∧ notTuple e = true then (tgsOf false names es).bind fun is=>if 2 ≤ is.length then (compE cx names sc n e).map fun i=>.asg (.unp is) i else none else none
        | _=>none
    | _=>none
noncomputable def compSs (names:List (Str × NameKind)) (sc:Scope):Nat → List Stmt → Option Mine.S
  | 0,_=>none
  | n + 1,sts=>match sts with
    | []=>some .skip
    | st :: sts=>(compS names sc n st).bind fun i=>(compSs names sc n sts).map fun j=>.seq i j
end
noncomputable def compFn (a:Addr):Option Fn:=(fnAt cx.K a).bind fun F=>(plainPs F.1.params).bind fun ps=>if (slotsOk (slotsOf ps F.1.scope) F.1.scope && paramsOk ps (slotsOf ps F.1.scope) F.1.scope) = true then (compSs cx (slotsOf ps F.1.scope) F.1.scope 200 F.1.body).map fun b=>⟨ps.length,(slotsOf ps F.1.scope).length,b⟩ else none
end
structure Law where
  fns:List Fn
  ws:List Str
  fnL:List Addr
  clsL:List Addr
  ats:List (List Nat)
  meths:List (List (Nat × Nat))
  inits:List (Option Nat)
noncomputable def Law.atB (L:Law) (c f:Nat):Bool:=match L.ats[c]? with
  | some l=>l.contains f
  | none=>false
noncomputable def Law.g (L:Law):Genv where
  fn:=fun f=>L.fns[f]?
  meth:=fun c m=>(L.meths[c]?).bind fun l=>l.lookup m
  init:=fun c=>(L.inits[c]?).join
  sub:=fun zz zz=>false
  at_:=L.atB
noncomputable def Law.cx (L:Law) (K:Frag):Cx:=⟨K,L.ws,L.fnL,L.clsL⟩
noncomputable def findIs (K:Frag) (C:Addr) (x:Str) (v:Option Value):Bool:=findIn K (.ref C) x == some v
noncomputable def attrOk (L:Law) (K:Frag) (C:Addr) (f:Nat):Bool:=match L.ws[f]? with
  | some x=>findIs K C x none
  | none=>false
noncomputable def methOk (L:Law) (K:Frag) (c:Nat) (C:Addr) (p:Nat × Nat):Bool:=!(L.atB c p.1) && match L.ws[p.1]?,L.fnL[p.2]? with
  | some x,some fa=>findIs K C x (some (.ref fa)) && isFn K (.ref fa)
  | _,_=>false
noncomputable def initOk (L:Law) (K:Frag) (C:Addr) (f:Nat):Bool:=match L.fnL[f]? with
  | some fa => findIs K C "__init__" (some (.ref fa)) && isFn K (.ref fa)
  | none=>false
noncomputable def clsAll (L:Law) (K:Frag) (c:Nat):Bool:=match L.clsL[c]? with
  | some C=>clsOk K C && (match L.ats[c]? with | some l=>l.all (attrOk L K C) | none=>true) && (match L.meths[c]? with | some l=>l.all (methOk L K c C) | none=>true) && (match L.inits[c]? with | some (some f)=>initOk L K C f | _=>true)
  | none=>true
noncomputable def ggOk (L : Law) (K : Frag) : Bool := L.fnL.all (fun a => keepIn K (.ref a)) && (List.range L.clsL.length).all (clsAll L K) && decide (L.inits.length ≤ L.clsL.length) && decide L.ws.Nodup && L.ws.all PyData.strOk && L.ws[mAppend]? == some "append" && L.ws[mPop]? == some "pop"
noncomputable def fragOf (as:List Addr) (h:Heap):Frag:=as.filterMap fun a=>(h.get? a).map fun o=>(a,o)
noncomputable def isName:Stmt → Bool
  | .Assign ts _ _=>ts.any fun t=>match t with
    | .Name x _ => x == "__name__"
    | _=>false
  | _=>false
noncomputable def viewOf (p:Program):Program:={ p with main:={ p.main with body:=p.main.body.filter fun x=>!isName x } }
noncomputable abbrev xtOf (p:Program) (r:RowW) (s:Shared):Bool:=xlAt (viewOf p) [] s && recOk (RowW.records r) s
noncomputable def topRunT (tb:String → Option Builtin) (p:Program) (w:World) (n₀:Nat) (ann:Option Value):Nat → SharedT → Thread → Option SharedT
  | 0,_,_=>none
  | n + 1,s,t=>match through t with
    | true=>some s
    | false=>match stepOk n₀ ann t with
      | false=>none
      | true=>match stepT (denote tb) p w s t with
        | some x=>topRunT tb p w n₀ ann n x.1 x.2
        | none=>none
noncomputable def toBT:List Obj → BT → Nat → Option BT
  | [],t,_=>some t
  | o :: l,t,n=>match ((t.ins n o).get n).isSome with
    | true=>toBT l (t.ins n o) (n + 1)
    | false=>none
noncomputable def openT (p:Program) (w:World) (N:Nat):Option (Shared × SharedT):=(fencedOpening treeTable p w N).bind fun s₀=>(toBT s₀.heap.objs.toList .nil 0).bind fun T=>
  (topRunT treeTable p w s₀.heap.objs.size (s₀.heap.nsMap mainGlobals "__annotations__") N ⟨T, s₀.heap.objs.toList.length, s₀.heap.life, s₀.gens, s₀.drawn, s₀.toks, s₀.os⟩ (topStub p)).map fun s => (s₀, s)
noncomputable def goodT (p:Program) (s₀ s₁:Shared):Bool:=(s₀.heap.isNs mainGlobals && s₀.gens.size == 0) && (staticsOk (importedModules p.main.body) s₀.heap s₁.heap && namesBound p s₁.heap && gensDone s₁ && laidKept s₀.heap s₁.heap)
noncomputable def fragT (as:List Addr) (s:SharedT):Frag:=as.filterMap fun a=>(match Nat.blt a s.n with | true=>alive ((s.tree.get a).getD default) | false=>none).map fun o=>(a,o)
noncomputable abbrev fCellAt_1:S:=.seq (.ret (.idx (.loc 0) (.loc 1))) .skip
noncomputable abbrev fCellAt_2:S:=.seq (.ret (.int 0)) .skip
noncomputable abbrev fCellAt_0:S:=.seq (.if_ (.cmp .lt (.loc 1) (.bi .len [(.loc 0)])) fCellAt_1 .skip) fCellAt_2
noncomputable abbrev fCellAt:Fn:=⟨2,2,fCellAt_0⟩
noncomputable def dTab:List (Nat × Nat):=[(12,30),(48,31),(49,32),(50,33),(51,34),(52,35),(38,36),(53,37),(54,38)]
noncomputable def dAtl:List Nat:=[46,9,8,47]
noncomputable def kTab:List (Nat × Nat):=[(58,41),(59,42),(36,43),(60,44),(51,45),(50,46),(52,47),(61,48),(43,49),(17,50),(62,51),(38,52),(63,53),(64,54),(65,55),(66,56)]
noncomputable def kAtl:List Nat:=[5,55,6,56,3,57]
noncomputable def excKit (K : Frag) (C : Addr) : Bool := (clsIn K C).isSome && findIn K (.ref C) "__getattribute__" == some (some (.builtin "BaseException.__getattribute__")) && findIn K (.ref C) "__getattr__" == some none && findIn K (.ref C) "__class__" == some (some (.builtin "object.__class__"))
  && specialIn K (.builtin "object.__class__") "__get__" == some (some (.builtin "getset_descriptor.__get__")) && takesIn K (.builtin "object.__class__") == some true && mroIn K C (.type "object") == some true && mroIn K C (.type "BaseException") == some true
noncomputable def clsV (K:Frag) (c:Str):Option Value:=match nsIn K mainGlobals c with
  | some (some v)=>some v
  | some none => if c = "__name__" then none else bootBuiltins c
  | none=>none
inductive HX where
  | kind (w c:Str)
  | add (a b:HX)
  | name (x:Str)
noncomputable def binV:(e:PySem.Expr) → Option { x:PySem.Expr × Operator × PySem.Expr × Pos // e = .BinOp x.1 x.2.1 x.2.2.1 x.2.2.2 }
  | .BinOp a o b p=>some ⟨(a,o,b,p),rfl⟩
  | _=>none
noncomputable def pairV {α:Type}:(l:List α) → Option { p:α × α // l = [p.1,p.2] }
  | [a,b]=>some ⟨(a,b),rfl⟩
  | _=>none
inductive IsiR (cx:Cx) (sc:Scope) (e:Str):PySem.Expr → Str → Prop
  | mk {c : Str} {p1 p2 p3 p4 : Pos} : isGl sc "isinstance" = true → nsIn cx.K mainGlobals "isinstance" = some none → isGl sc c = true → IsiR cx sc e (.Call (.Name "isinstance" p1) [.Name e p2, .Name c p3] [] p4) c
inductive HxR (cx:Cx) (sc:Scope) (e:Str):PySem.Expr → HX → Prop
  | name {x:Str} {p:Pos}:HxR cx sc e (.Name x p) (.name x)
  | add {a b:PySem.Expr} {u v:HX} {p:Pos}:HxR cx sc e a u → HxR cx sc e b v → HxR cx sc e (.BinOp a .Add b p) (.add u v)
  | kind {w c : Str} {x : PySem.Expr} {k : Nat} {p1 p2 p3 p4 : Pos} : isGl sc "int" = true → nsIn cx.K mainGlobals "int" = some none → IsiR cx sc e x c → HxR cx sc e (.BinOp (.Constant (.str w) k p1) .Mult (.Call (.Name "int" p2) [x] [] p3) p4) (.kind w c)
theorem isi_mk {cx:Cx} {sc:Scope} {e:Str} {x f a b:PySem.Expr} {as:List PySem.Expr} {ks:List Keyword} {p p1 p2 p3:Pos} {fn y z:Str} (h1:x = .Call f as ks p) (h2:as = [a,b]) (h3:f = .Name fn p1) (h4:a = .Name y p2) (h5:b = .Name z p3)
    (h : (fn = "isinstance" ∧ ks.isEmpty = true ∧ y = e) ∧ isGl sc "isinstance" = true ∧ nsIn cx.K mainGlobals "isinstance" = some none ∧ isGl sc z = true) : IsiR cx sc e x z := by
  obtain ⟨⟨k1,k2,k3⟩,k4,k5,k6⟩:=h
  subst h1 h2 h3 h4 h5 k1 k3
  rw [List.isEmpty_iff.mp k2]
  exact .mk k4 k5 k6
noncomputable def isiE (cx:Cx) (sc:Scope) (e:Str) (x:PySem.Expr):Option { c:Str // IsiR cx sc e x c }:=(callV x).bind fun c=>(pairV c.1.2.1).bind fun a=>(nmV c.1.1).bind fun f=>(nmV a.1.1).bind fun y=>(nmV a.1.2).bind fun z=>
  if h : (f.1.1 = "isinstance" ∧ c.1.2.2.1.isEmpty = true ∧ y.1.1 = e) ∧ isGl sc "isinstance" = true ∧ nsIn cx.K mainGlobals "isinstance" = some none ∧ isGl sc z.1.1 = true then some ⟨z.1.1, isi_mk c.2 a.2 f.2 y.2 z.2 h⟩ else none
theorem hx_name {cx:Cx} {sc:Scope} {e y:Str} {x:PySem.Expr} {p:Pos} (h:x = .Name y p):HxR cx sc e x (.name y):=by subst h; exact .name
theorem hx_add {cx:Cx} {sc:Scope} {e:Str} {x a b:PySem.Expr} {o:Operator} {p:Pos} {u v:HX} (h:x = .BinOp a o b p) (ho:o = .Add) (h1:HxR cx sc e a u) (h2:HxR cx sc e b v):HxR cx sc e x (.add u v):=by
  subst h ho; exact .add h1 h2
theorem hx_kind {cx:Cx} {sc:Scope} {e:Str} {x a b f y:PySem.Expr} {o:Operator} {as:List PySem.Expr} {ks:List Keyword} {p p1 p2 p3:Pos} {k:Nat} {w fn c:Str} (h:x = .BinOp a o b p) (h1:a = .Constant (.str w) k p1) (h2:b = .Call f as ks p2) (h3:as = [y]) (h4:f = .Name fn p3) (h5:IsiR cx sc e y c)
    (hc : o = .Mult ∧ fn = "int" ∧ ks.isEmpty = true ∧ isGl sc "int" = true ∧ nsIn cx.K mainGlobals "int" = some none) : HxR cx sc e x (.kind w c) := by
  obtain ⟨k1,k2,k3,k4,k5⟩:=hc
  subst h h1 h2 h3 h4 k1 k2
  rw [List.isEmpty_iff.mp k3]
  exact .kind k4 k5 h5
noncomputable def hxOf (cx:Cx) (sc:Scope) (e:Str):Nat → (x:PySem.Expr) → Option { u:HX // HxR cx sc e x u }
  | 0,_=>none
  | n + 1,x=>match nmV x with
    | some y=>some ⟨.name y.1.1,hx_name y.2⟩
    | none=>(binV x).bind fun q=>if h:q.1.2.1 = .Add then (hxOf cx sc e n q.1.1).bind fun u=>(hxOf cx sc e n q.1.2.2.1).map fun v=>⟨.add u.1 v.1,hx_add q.2 h u.2 v.2⟩
      else (constV q.1.1).bind fun w => (callV q.1.2.2.1).bind fun c => (singleV c.1.2.1).bind fun y => (nmV c.1.1).bind fun f => (isiE cx sc e y.1).bind fun z => if h : q.1.2.1 = .Mult ∧ f.1.1 = "int" ∧ c.1.2.2.1.isEmpty = true ∧ isGl sc "int" = true ∧ nsIn cx.K mainGlobals "int" = some none then some ⟨.kind w.1.1 z.1, hx_kind q.2 w.2 c.2 y.2 f.2 z.2 h⟩ else none
noncomputable def hxV (isin:Str → Option Bool) (lm:Str → Option Str):HX → Option Str
  | .kind w c=>(isin c).map fun b=>if b then w else Str.empty
  | .add a b=>(hxV isin lm a).bind fun x=>(hxV isin lm b).bind fun y=>if x.length + y.length ≤ 1000 then some (x ++ y) else none
  | .name x=>lm x
noncomputable def isinOf (K:Frag) (C:Addr) (c:Str):Option Bool:=(clsV K c).bind fun v=>kitOne K (.ref C) v
noncomputable def tryV:(st:Stmt) → Option { x:List Stmt × List ExceptHandler × Pos // st = .Try x.1 x.2.1 [] [] x.2.2 }
  | .Try b h [] [] p=>some ⟨(b,h,p),rfl⟩
  | _=>none
noncomputable def retV:(st:Stmt) → Option { x:PySem.Expr × Pos // st = .Return (some x.1) x.2 }
  | .Return (some e) p=>some ⟨(e,p),rfl⟩
  | _=>none
noncomputable def asgV:(st:Stmt) → Option { x:PySem.Expr × PySem.Expr × Pos // st = .Assign [x.1] x.2.1 x.2.2 }
  | .Assign [t] e p=>some ⟨(t,e,p),rfl⟩
  | _=>none
noncomputable def exprV:(st:Stmt) → Option { x:PySem.Expr × Pos // st = .Expr x.1 x.2 }
  | .Expr e p=>some ⟨(e,p),rfl⟩
  | _=>none
noncomputable def handV:(h:ExceptHandler) → Option { x:PySem.Expr × Str × List Stmt × Pos // h = .ExceptHandler (some x.1) (some x.2.1) x.2.2.1 x.2.2.2 }
  | .ExceptHandler (some e) (some n) b p=>some ⟨(e,n,b,p),rfl⟩
  | _=>none
noncomputable def andV:(e:PySem.Expr) → Option { x:PySem.Expr × PySem.Expr × Pos // e = .BoolOp .And [x.1,x.2.1] x.2.2 }
  | .BoolOp .And [a,b] p=>some ⟨(a,b,p),rfl⟩
  | _=>none
noncomputable def eqV:(e:PySem.Expr) → Option { x:PySem.Expr × PySem.Expr × Pos // e = .Compare x.1 [.Eq] [x.2.1] x.2.2 }
  | .Compare a [.Eq] [b] p=>some ⟨(a,b,p),rfl⟩
  | _=>none
noncomputable def three {α:Type}:(l:List α) → Option { t:α × α × α // l = [t.1,t.2.1,t.2.2] }
  | [a,b,c]=>some ⟨(a,b,c),rfl⟩
  | _=>none
structure CaughtP where
  deed:Str
  due:Str
  exn:Str
  kinds:Str
  mill:Str
  ve:Str
  nil:Str
  x1:HX
  x2:HX
inductive SuiteR (cx:Cx) (sc:Scope) (p:CaughtP):List Stmt → Prop
  | mk {a1 a2 ex:PySem.Expr} {p5 p6 p7 p8 p9 p10 p11 p16 p17:Pos}:HxR cx sc p.exn a1 p.x1 → HxR cx sc p.exn a2 p.x2 → IsiR cx sc p.exn ex p.ve →
      SuiteR cx sc p [.Assign [.Name p.kinds p5] a1 p6,.Assign [.Name p.kinds p7] a2 p8,.Return (some (.BoolOp .And [.Compare (.Name p.kinds p9) [.Eq] [.Name p.due p10] p11,ex] p16)) p17]
inductive CaughtR (cx:Cx) (sc:Scope) (p:CaughtP):List Stmt → Prop
  | mk {suite:List Stmt} {k:Nat} {p1 p2 p3 p4 p18 p19 p20 p21 p22 p23:Pos}:SuiteR cx sc p suite → isGl sc p.mill = true →
      CaughtR cx sc p [.Try [.Expr (.Call (.Name p.deed p1) [] [] p2) p3] [.ExceptHandler (some (.Name p.mill p4)) (some p.exn) suite p18] [] [] p19,.Return (some (.Compare (.Name p.due p20) [.Eq] [.Constant (.str p.nil) k p21] p22)) p23]
theorem suite_mk {cx:Cx} {sc:Scope} {l:List Stmt} {s1 s2 s3:Stmt} {t1 t2 a1 a2 r u v uc ud:PySem.Expr} {q1 q2 q3 p5 p7 p9 p10 pa pb:Pos} {deed mill nil k1 k2 k3 du exn ve:Str} {x1 x2:HX} (h0:l = [s1,s2,s3]) (h1:s1 = .Assign [t1] a1 q1) (h2:s2 = .Assign [t2] a2 q2) (h3:s3 = .Return (some r) q3) (h4:t1 = .Name k1 p5) (h5:t2 = .Name k2 p7)
    (h6:HxR cx sc exn a1 x1) (h7:HxR cx sc exn a2 x2) (h8:r = .BoolOp .And [u,v] pa) (h9:u = .Compare uc [.Eq] [ud] pb) (h10:uc = .Name k3 p9) (h11:ud = .Name du p10) (h12:IsiR cx sc exn v ve) (e:k2 = k1 ∧ k3 = k1):SuiteR cx sc ⟨deed,du,exn,k1,mill,ve,nil,x1,x2⟩ l:=by
  obtain ⟨e1,e2⟩:=e
  subst h0 h1 h2 h3 h4 h5 h8 h9 h10 h11 e1 e2
  exact .mk h6 h7 h12
theorem caught_mk {cx:Cx} {sc:Scope} {body tb suite:List Stmt} {b1 b2 st:Stmt} {hs:List ExceptHandler} {hd:ExceptHandler} {re ce cf he e1 e2:PySem.Expr} {args:List PySem.Expr} {kws:List Keyword} {pt pr pe pc pd ph pm pq pdu pz:Pos} {k:Nat} {deed mill nil k1 du du2 exn ve:Str} {x1 x2:HX} (h0:body = [b1,b2]) (h1:b1 = .Try tb hs [] [] pt) (h2:b2 = .Return (some re) pr) (h3:tb = [st]) (h4:st = .Expr ce pe) (h5:ce = .Call cf args kws pc) (h6:cf = .Name deed pd) (h7:hs = [hd]) (h8:hd = .ExceptHandler (some he) (some exn) suite ph) (h9:he = .Name mill pm)
    (h10:SuiteR cx sc ⟨deed,du,exn,k1,mill,ve,nil,x1,x2⟩ suite) (h11:re = .Compare e1 [.Eq] [e2] pq) (h12:e1 = .Name du2 pdu) (h13:e2 = .Constant (.str nil) k pz) (e:args.isEmpty = true ∧ kws.isEmpty = true ∧ du2 = du ∧ isGl sc mill = true):CaughtR cx sc ⟨deed,du,exn,k1,mill,ve,nil,x1,x2⟩ body:=by
  obtain ⟨g1,g2,g3,g4⟩:=e
  subst h0 h1 h2 h3 h4 h5 h6 h7 h8 h9 h11 h12 h13 g3
  rw [List.isEmpty_iff.mp g1,List.isEmpty_iff.mp g2]
  exact .mk h10 g4
noncomputable def caughtOf (cx:Cx) (sc:Scope) (body:List Stmt):Option { p:CaughtP // CaughtR cx sc p body }:=(pairV body).bind fun b=>(tryV b.1.1).bind fun t=>(retV b.1.2).bind fun rt=>(singleV t.1.1).bind fun st=>(exprV st.1).bind fun ev=>(callV ev.1.1).bind fun c=>(nmV c.1.1).bind fun deed=>(singleV t.1.2.1).bind fun hd=>(handV hd.1).bind fun h=>(nmV h.1.1).bind fun mill=>
  (three h.1.2.2.1).bind fun s=>(asgV s.1.1).bind fun s1=>(asgV s.1.2.1).bind fun s2=>(retV s.1.2.2).bind fun s3=>(nmV s1.1.1).bind fun k1=>(nmV s2.1.1).bind fun k2=>(hxOf cx sc h.1.2.1 20 s1.1.2.1).bind fun x1=>(hxOf cx sc h.1.2.1 20 s2.1.2.1).bind fun x2=>(andV s3.1.1).bind fun an=>(eqV an.1.1).bind fun eq=>(nmV eq.1.1).bind fun k3=>(nmV eq.1.2.1).bind fun du=>(isiE cx sc h.1.2.1 an.1.2.1).bind fun ve=>
  (eqV rt.1.1).bind fun eq2=>(nmV eq2.1.1).bind fun du2=>(constV eq2.1.2.1).bind fun z=>if g:(k2.1.1 = k1.1.1 ∧ k3.1.1 = k1.1.1) ∧ c.1.2.1.isEmpty = true ∧ c.1.2.2.1.isEmpty = true ∧ du2.1.1 = du.1.1 ∧ isGl sc mill.1.1 = true then
    some ⟨⟨deed.1.1,du.1.1,h.1.2.1,k1.1.1,mill.1.1,ve.1,z.1.1,x1.1,x2.1⟩,caught_mk b.2 t.2 rt.2 st.2 ev.2 c.2 deed.2 hd.2 h.2 mill.2 (suite_mk s.2 s1.2 s2.2 s3.2 k1.2 k2.2 x1.2 x2.2 an.2 eq.2 k3.2 du.2 ve.2 g.1) eq2.2 du2.2 z.2 g.2⟩ else none
noncomputable def kindsC (K:Frag) (p:CaughtP) (C:Addr):Option Str:=(hxV (isinOf K C) (fun zz=>none) p.x1).bind fun w1=>hxV (isinOf K C) (fun x=>if x = p.kinds then some w1 else none) p.x2
structure NamesP (names:List (Str × NameKind)) (p:CaughtP):Prop where
  deed:∃ i:Nat,names[i]? = some (p.deed,.local)
  due:∃ i:Nat,names[i]? = some (p.due,.local)
  exn:∃ i:Nat,names[i]? = some (p.exn,.local)
  kinds:∃ i:Nat,names[i]? = some (p.kinds,.local)
  ne1:p.due ≠ p.exn
  ne2:p.due ≠ p.kinds
  ne3:p.exn ≠ p.kinds
structure LamP where
  cn:Str
  du:Str
  y:Str
  f:Nat
  is:List Mine.E
  line:Nat
  col:Nat
inductive CallcR (cx:Cx) (sc:Scope) (fc:Addr) (q:LamP):PySem.Expr → Prop
  | mk {ps:Arguments} {es:List PySem.Expr} {lsc:Scope} {fx:Str} {lp p1 p2 p3 p4 p5:Pos}:isGl sc q.cn = true → nsIn cx.K mainGlobals q.cn = some (some (.ref fc)) → plainPs ps = some [] → ps.defaults = [] → ps.kw_defaults = [] → lsc.names = [(q.y,.free),(fx,.globalImplicit)] → lsc.kind = .function → lsc.isCoroutine = false → lsc.isGenerator = false →
      slotsOk [(q.y,.free)] lsc = true → hdOf cx lsc fx = some (.fn q.f) → compEs cx [(q.y,.free)] lsc 20 es = some q.is → lp.line = q.line → lp.col = q.col →
      CallcR cx sc fc q (.Call (.Name q.cn p1) [.Lambda ps (.Call (.Name fx p2) es [] p3) lsc lp,.Name q.du p4] [] p5)
inductive CaughtF (cx:Cx) (p:CaughtP) (fc:Addr):Prop
  | mk {F:FnP} {names:List (Str × NameKind)}:FnR cx.K fc F → plainPs F.params = some [p.deed,p.due] → slotsOk names F.scope = true → F.scope.kind = .function → F.scope.isCoroutine = false → F.scope.isGenerator = false → (∀ x ∈ F.scope.names,x.2 ≠ .cell) →
    CaughtR cx F.scope p F.body → NamesP names p → p.deed ≠ p.due → keepIn cx.K (.ref fc) = true → CaughtF cx p fc
structure LawP where
  S:Mine.S
  q1:LamP
  q2:LamP
  q3:LamP
  i:Mine.E
  jy:Nat
  jd:Nat
inductive LawR (cx:Cx) (names:List (Str × NameKind)) (sc:Scope) (fc:Addr) (L:LawP):List Stmt → Prop
  | mk {sts b1 b2:List Stmt} {e1 e2 e3 rest:PySem.Expr} {p1 p2 p3 p4 p5 p6:Pos}:compSs cx names sc 200 sts = some L.S → CallcR cx sc fc L.q1 e1 → CallcR cx sc fc L.q2 e2 → CallcR cx sc fc L.q3 e3 → compE cx names sc 100 rest = some L.i →
      names[L.jy]? = some (L.q1.y,.cell) → names[L.jd]? = some (L.q1.du,.local) → L.q2.y = L.q1.y → L.q3.y = L.q1.y → L.q2.du = L.q1.du → L.q3.du = L.q1.du →
      LawR cx names sc fc L (sts ++ [.If (.UnaryOp .Not e1 p1) b1 [] p2,.If (.UnaryOp .Not e2 p3) b2 [] p4,.Return (some (.BoolOp .And [e3,rest] p5)) p6])
noncomputable def lamV:(e:PySem.Expr) → Option { x:Arguments × PySem.Expr × Scope × Pos // e = .Lambda x.1 x.2.1 x.2.2.1 x.2.2.2 }
  | .Lambda a b c d=>some ⟨(a,b,c,d),rfl⟩
  | _=>none
noncomputable def ifNotV:(st:Stmt) → Option { x:PySem.Expr × Pos × List Stmt × Pos // st = .If (.UnaryOp .Not x.1 x.2.1) x.2.2.1 [] x.2.2.2 }
  | .If (.UnaryOp .Not e p) b [] q=>some ⟨(e,p,b,q),rfl⟩
  | _=>none
noncomputable def freeV (fx:Str):(l:List (Str × NameKind)) → Option { y:Str // l = [(y,.free),(fx,.globalImplicit)] }
  | [(y,.free),(x,.globalImplicit)]=>if h:x = fx then some ⟨y,by rw [h]⟩ else none
  | _=>none
noncomputable def fnHd:(o:Option Head) → Option { f:Nat // o = some (.fn f) }
  | some (.fn f)=>some ⟨f,rfl⟩
  | _=>none
noncomputable def lscOk (ps:Arguments) (y:Str) (lsc:Scope):Bool:=plainPs ps == some [] && ps.defaults.isEmpty && ps.kw_defaults.isEmpty && lsc.kind == .function && !lsc.isCoroutine && !lsc.isGenerator && slotsOk [(y,.free)] lsc
theorem callc_mk {cx:Cx} {sc:Scope} {fc:Addr} {e cf ab0 ab1 lb bf:PySem.Expr} {as bs':List PySem.Expr} {ks bk:List Keyword} {aps:Arguments} {lsc:Scope} {pc p1 lp p4 p3 p2:Pos} {cn du fx y:Str} {f:Nat} {is:List Mine.E} (h1:e = .Call cf as ks pc) (h2:cf = .Name cn p1) (h3:as = [ab0,ab1]) (h4:ab0 = .Lambda aps lb lsc lp) (h5:ab1 = .Name du p4) (h6:lb = .Call bf bs' bk p3) (h7:bf = .Name fx p2) (h8:lsc.names = [(y,.free),(fx,.globalImplicit)]) (h9:hdOf cx lsc fx = some (.fn f)) (h10:compEs cx [(y,.free)] lsc 20 bs' = some is)
    (h:ks.isEmpty = true ∧ bk.isEmpty = true ∧ isGl sc cn = true ∧ nsIn cx.K mainGlobals cn = some (some (.ref fc)) ∧ lscOk aps y lsc = true):CallcR cx sc fc ⟨cn,du,y,f,is,lp.line,lp.col⟩ e:=by
  obtain ⟨c1,c2,c3,c4,c5⟩:=h
  simp only [lscOk,Bool.and_eq_true,beq_iff_eq,List.isEmpty_iff,Bool.not_eq_true'] at c5
  obtain ⟨⟨⟨⟨⟨⟨k1,k2⟩,k3⟩,k4⟩,k5⟩,k6⟩,k7⟩:=c5
  subst h1 h2 h3 h4 h5 h6 h7
  rw [List.isEmpty_iff.mp c1,List.isEmpty_iff.mp c2]
  exact .mk c3 c4 k1 k2 k3 h8 k4 k5 k6 k7 h9 h10 rfl rfl
noncomputable def callcOf (cx:Cx) (sc:Scope) (fc:Addr) (e:PySem.Expr):Option { q:LamP // CallcR cx sc fc q e }:=(callV e).bind fun c=>(nmV c.1.1).bind fun cn=>(pairV c.1.2.1).bind fun ab=>(lamV ab.1.1).bind fun lam=>(nmV ab.1.2).bind fun du=>(callV lam.1.2.1).bind fun b=>(nmV b.1.1).bind fun fx=>(freeV fx.1.1 lam.1.2.2.1.names).bind fun y=>(fnHd (hdOf cx lam.1.2.2.1 fx.1.1)).bind fun f=>(optE (compEs cx [(y.1,.free)] lam.1.2.2.1 20 b.1.2.1)).bind fun is=>
  if h:c.1.2.2.1.isEmpty = true ∧ b.1.2.2.1.isEmpty = true ∧ isGl sc cn.1.1 = true ∧ nsIn cx.K mainGlobals cn.1.1 = some (some (.ref fc)) ∧ lscOk lam.1.1 y.1 lam.1.2.2.1 = true then some ⟨⟨cn.1.1,du.1.1,y.1,f.1,is.1,lam.1.2.2.2.line,lam.1.2.2.2.col⟩,callc_mk c.2 cn.2 ab.2 lam.2 du.2 b.2 fx.2 y.2 f.2 is.2 h⟩ else none
noncomputable def scOk (sc:Scope):Bool:=sc.kind == .function && !sc.isCoroutine && !sc.isGenerator && sc.names.all fun x=>!(x.2 == .cell)
noncomputable def npOk (names:List (Str × NameKind)) (p:CaughtP):Bool:=names.contains (p.deed,.local) && names.contains (p.due,.local) && names.contains (p.exn,.local) && names.contains (p.kinds,.local) && !(p.due == p.exn) && !(p.due == p.kinds) && !(p.exn == p.kinds) && !(p.deed == p.due)
theorem caughtF_mk {cx:Cx} {a:Addr} {F:FnP} {p:CaughtP} (h1:FnR cx.K a F) (h2:CaughtR cx F.scope p F.body) (hc:(plainPs F.params == some [p.deed,p.due] && slotsOk (slotsOf [p.deed,p.due] F.scope) F.scope && scOk F.scope && npOk (slotsOf [p.deed,p.due] F.scope) p && keepIn cx.K (.ref a)) = true):CaughtF cx p a:=by
  simp only [scOk,npOk,Bool.and_eq_true,beq_iff_eq,Bool.not_eq_true',List.all_eq_true,List.contains_iff_mem] at hc
  obtain ⟨⟨⟨⟨k1,k2⟩,⟨⟨k3,k4⟩,k5⟩,k6⟩,⟨⟨⟨⟨⟨⟨n1,n2⟩,n3⟩,n4⟩,n5⟩,n6⟩,n7⟩,n8⟩,k8⟩:=hc
  exact .mk h1 k1 k2 k3 k4 k5 (fun x hx z=>beq_eq_false_iff_ne.mp (k6 x hx) z) h2 ⟨List.mem_iff_getElem?.mp n1,List.mem_iff_getElem?.mp n2,List.mem_iff_getElem?.mp n3,List.mem_iff_getElem?.mp n4,beq_eq_false_iff_ne.mp n5,beq_eq_false_iff_ne.mp n6,beq_eq_false_iff_ne.mp n7⟩ (beq_eq_false_iff_ne.mp n8) k8
noncomputable def caughtFn (cx:Cx) (a:Addr):Option { p:CaughtP // CaughtF cx p a }:=(fnAt cx.K a).bind fun F=>(caughtOf cx F.1.scope F.1.body).bind fun p=>if h:(plainPs F.1.params == some [p.1.deed,p.1.due] && slotsOk (slotsOf [p.1.deed,p.1.due] F.1.scope) F.1.scope && scOk F.1.scope && npOk (slotsOf [p.1.deed,p.1.due] F.1.scope) p.1 && keepIn cx.K (.ref a)) = true then some ⟨p.1,caughtF_mk F.2 p.2 h⟩ else none
theorem law_mk {cx:Cx} {names:List (Str × NameKind)} {sc:Scope} {fc:Addr} {body b1 b2:List Stmt} {t1 t2 t3:Stmt} {e1 e2 e3 r rest:PySem.Expr} {p1 p2 p3 p4 p5 p6:Pos} {L:LawP} (h1:body.drop 6 = [t1,t2,t3]) (h2:t1 = .If (.UnaryOp .Not e1 p1) b1 [] p2) (h3:t2 = .If (.UnaryOp .Not e2 p3) b2 [] p4) (h4:t3 = .Return (some r) p6) (h5:r = .BoolOp .And [e3,rest] p5)
    (h6:compSs cx names sc 200 (body.take 6) = some L.S) (h7:CallcR cx sc fc L.q1 e1) (h8:CallcR cx sc fc L.q2 e2) (h9:CallcR cx sc fc L.q3 e3) (h10:compE cx names sc 100 rest = some L.i)
    (h:names[L.jy]? = some (L.q1.y,.cell) ∧ names[L.jd]? = some (L.q1.du,.local) ∧ L.q2.y = L.q1.y ∧ L.q3.y = L.q1.y ∧ L.q2.du = L.q1.du ∧ L.q3.du = L.q1.du):LawR cx names sc fc L body:=by
  obtain ⟨c1,c2,c3,c4,c5,c6⟩:=h
  subst h2 h3 h4 h5
  rw [← List.take_append_drop 6 body,h1]
  exact .mk h6 h7 h8 h9 h10 c1 c2 c3 c4 c5 c6
noncomputable def lawOf (cx:Cx) (names:List (Str × NameKind)) (sc:Scope) (fc:Addr) (body:List Stmt):Option { L:LawP // LawR cx names sc fc L body }:=(three (body.drop 6)).bind fun t=>(ifNotV t.1.1).bind fun s1=>(ifNotV t.1.2.1).bind fun s2=>(retV t.1.2.2).bind fun s3=>(andV s3.1.1).bind fun an=>
  (optE (compSs cx names sc 200 (body.take 6))).bind fun S=>(callcOf cx sc fc s1.1.1).bind fun q1=>(callcOf cx sc fc s2.1.1).bind fun q2=>(callcOf cx sc fc an.1.1).bind fun q3=>(optE (compE cx names sc 100 an.1.2.1)).bind fun i=>(idxName q1.1.y names).bind fun jy=>(idxName q1.1.du names).bind fun jd=>
  if h:names[jy.1]? = some (q1.1.y,.cell) ∧ names[jd.1]? = some (q1.1.du,.local) ∧ q2.1.y = q1.1.y ∧ q3.1.y = q1.1.y ∧ q2.1.du = q1.1.du ∧ q3.1.du = q1.1.du then some ⟨⟨S.1,q1.1,q2.1,q3.1,i.1,jy.1,jd.1⟩,law_mk t.2 s1.2 s2.2 s3.2 an.2 S.2 q1.2 q2.2 q3.2 i.2 h⟩ else none
inductive LawF (cx:Cx) (a fc:Addr) (L:LawP) (c:Addr):Prop
  | mk {F:FnP} {ps:List Str}:FnR cx.K a F → plainPs F.params = some ps → slotsOk (slotsOf ps F.scope) F.scope = true → paramsOk ps (slotsOf ps F.scope) F.scope = true → ps.length = 1 → (slotsOf ps F.scope).length = 4 → LawR cx (slotsOf ps F.scope) F.scope fc L F.body → F.cdv = .ref c → LawF cx a fc L c
noncomputable def refV:(v:Value) → Option { c:Addr // v = .ref c }
  | .ref c=>some ⟨c,rfl⟩
  | _=>none
noncomputable def lawFn (cx:Cx) (a fc:Addr):Option { x:LawP × Addr // LawF cx a fc x.1 x.2 }:=(fnAt cx.K a).bind fun F=>(optE (plainPs F.1.params)).bind fun ps=>(lawOf cx (slotsOf ps.1 F.1.scope) F.1.scope fc F.1.body).bind fun L=>(refV F.1.cdv).bind fun c=>
  if h:slotsOk (slotsOf ps.1 F.1.scope) F.1.scope = true ∧ paramsOk ps.1 (slotsOf ps.1 F.1.scope) F.1.scope = true ∧ ps.1.length = 1 ∧ (slotsOf ps.1 F.1.scope).length = 4 then some ⟨(L.1,c.1),.mk F.2 ps.2 h.1 h.2.1 h.2.2.1 h.2.2.2 L.2 c.2⟩ else none
noncomputable def kindsOk (K:Frag) (ws:List Str) (p:CaughtP) (mv:Value):List (Nat × Nat) → Bool
  | []=>true
  | (w,k) :: r=>(match ws[w]?,ws[k]? with
    | some x,some d=>(match nsIn K mainGlobals x with
      | some (some (.ref C))=>excKit K C && exmOne K (.ref C) mv == some true && kindsC K p C == some d && isinOf K C p.ve == some true
      | _=>false)
    | _,_=>false) && kindsOk K ws p mv r
structure Six where
  fc:Addr
  mv:Value
  p:CaughtP
  L:LawP
  c:Addr
  P:Addr
  tb:List (Nat × Nat)
noncomputable abbrev O6:Type:=Option CaughtP × Option (LawP × Addr) × Bool × Option Value × Bool × Option (Addr × Addr)
noncomputable def obs6 (L : Law) (fa : Addr) (x : Six) (K : Frag) : O6 := ((caughtFn (L.cx K) x.fc).map (·.1), (lawFn (L.cx K) fa x.fc).map (·.1), (K.lookup x.P).isNone, clsV K x.p.mill, kindsOk K L.ws x.p x.mv x.tb, tabIn K "law")
noncomputable def val6 (x:Six):O6:=(some x.p,some (x.L,x.c),true,some x.mv,true,some (x.c,x.P))
end Mine
end
noncomputable section
end
noncomputable section
namespace Mine
noncomputable abbrev cWithin_0:S:=.seq (.ret (.and_ (.isi (.loc 0) .int) (.and_ (.not_ (.isi (.loc 0) .bool)) (.cmp2 .le .lt (.int 0) (.loc 0) (.loc 1))))) .skip
noncomputable abbrev cWithin:Fn:=⟨2,2,cWithin_0⟩
noncomputable abbrev cNeedBox_0:S:=.seq (.if_ (.not_ (.call 23 [(.loc 0),(.int 4)])) (.seq (.raise 69) .skip) .skip) .skip
noncomputable abbrev cNeedBox:Fn:=⟨1,1,cNeedBox_0⟩
noncomputable abbrev cLookExpression_0:S:=.seq (.if_ (.cmp .gt (.loc 2) (.int 6)) (.seq (.raise 72) .skip) .skip) (.seq (.if_ (.cmp .eq (.idx (.loc 0) (.int 0)) (.str 36)) (.seq (.expr (.call 24 [(.idx (.loc 0) (.int 1))])) .skip) (.seq (.if_ (.cmp .eq (.idx (.loc 0) (.int 0)) (.str 14)) (.seq (.if_ (.not_ (.call 23 [(.idx (.loc 0) (.int 1)),(.loc 1)])) (.seq (.raise 70) .skip) .skip) (.seq (.expr (.call 25 [(.idx (.loc 0) (.int 2)),(.loc 1),(.bin .add (.loc 2) (.int 1))])) .skip)) (.seq (.if_ (.cmp .ne (.idx (.loc 0) (.int 0)) (.str 35)) (.seq (.expr (.call 25 [(.idx (.loc 0) (.int 1)),(.loc 1),(.bin .add (.loc 2) (.int 1))])) (.seq (.expr (.call 25 [(.idx (.loc 0) (.int 2)),(.loc 1),(.bin .add (.loc 2) (.int 1))])) .skip)) .skip) .skip)) .skip)) .skip)
noncomputable abbrev cLookExpression:Fn:=⟨3,3,cLookExpression_0⟩
noncomputable abbrev cLookBlock_0:S:=.seq (.if_ (.cmp .gt (.loc 2) (.int 8)) (.seq (.raise 72) .skip) .skip) (.seq (.for_ [4] .seq (.loc 0) (.seq (.expr (.call 27 [(.loc 4),(.loc 1),(.loc 2),(.loc 3)])) .skip)) .skip)
noncomputable abbrev cLookBlock:Fn:=⟨4,5,cLookBlock_0⟩
noncomputable abbrev cLookStatement_0:S:=.seq (.asg (.loc 4) (.idx (.loc 0) (.int 0))) (.seq (.if_ (.cmp .eq (.loc 4) (.str 22)) (.seq (.expr (.call 24 [(.idx (.loc 0) (.int 1))])) (.seq (.expr (.call 25 [(.idx (.loc 0) (.int 2)),(.loc 1),(.int 1)])) .skip)) (.seq (.if_ (.or_ (.cmp .eq (.loc 4) (.str 23)) (.or_ (.cmp .eq (.loc 4) (.str 43)) (.cmp .eq (.loc 4) (.str 31)))) (.seq (.expr (.call 25 [(.idx (.loc 0) (.int 1)),(.loc 1),(.int 1)])) .skip) (.seq (.if_ (.cmp .eq (.loc 4) (.str 37)) (.seq (.expr (.call 25 [(.idx (.loc 0) (.int 1)),(.loc 1),(.int 1)])) (.seq (.expr (.call 26 [(.idx (.loc 0) (.int 2)),(.loc 1),(.bin .add (.loc 2) (.int 1)),(.loc 3)])) (.seq (.expr (.call 26 [(.idx (.loc 0) (.int 3)),(.loc 1),(.bin .add (.loc 2) (.int 1)),(.loc 3)])) .skip))) (.seq (.if_ (.cmp .eq (.loc 4) (.str 38)) (.seq (.expr (.call 25 [(.idx (.loc 0) (.int 1)),(.loc 1),(.int 1)])) (.seq (.expr (.call 26 [(.idx (.loc 0) (.int 2)),(.loc 1),(.bin .add (.loc 2) (.int 1)),(.bool true)])) .skip)) (.seq (.if_ (.cmp .eq (.loc 4) (.str 39)) (.seq (.expr (.call 26 [(.idx (.loc 0) (.int 1)),(.loc 1),(.bin .add (.loc 2) (.int 1)),(.loc 3)])) (.seq (.expr (.call 24 [(.idx (.loc 0) (.int 3))])) (.seq (.expr (.call 26 [(.idx (.loc 0) (.int 4)),(.loc 1),(.bin .add (.loc 2) (.int 1)),(.loc 3)])) .skip))) (.seq (.if_ (.cmp .eq (.loc 4) (.str 40)) (.seq (.expr (.call 26 [(.idx (.loc 0) (.int 1)),(.loc 1),(.bin .add (.loc 2) (.int 1)),(.loc 3)])) (.seq (.expr (.call 26 [(.idx (.loc 0) (.int 2)),(.loc 1),(.bin .add (.loc 2) (.int 1)),(.loc 3)])) .skip)) (.seq (.if_ (.not_ (.loc 3)) (.seq (.raise 71) .skip) .skip) .skip)) .skip)) .skip)) .skip)) .skip)) .skip)) .skip)
noncomputable abbrev cLookStatement:Fn:=⟨4,5,cLookStatement_0⟩
noncomputable abbrev cChecked_0:S:=.seq (.if_ (.cmp .eq (.bi .len [(.loc 0)]) (.int 0)) (.seq (.raise 70) .skip) .skip) (.seq (.for_ [1] .seq (.loc 0) (.seq (.expr (.call 26 [(.loc 1),(.bi .len [(.loc 0)]),(.int 1),(.bool false)])) .skip)) .skip)
noncomputable abbrev cChecked:Fn:=⟨1,2,cChecked_0⟩
end Mine
end
noncomputable section
namespace Mine
noncomputable abbrev dInit_0:S:=.seq (.asg (.attr (.loc 0) 46) (.loc 1)) (.seq (.asg (.attr (.loc 0) 9) (.lst [])) (.seq (.asg (.attr (.loc 0) 8) (.loc 2)) (.seq (.asg (.attr (.loc 0) 47) (.int 0)) .skip)))
noncomputable abbrev dInit:Fn:=⟨3,3,dInit_0⟩
noncomputable abbrev dTookTurn_0:S:=.seq (.if_ (.cmp .eq (.attr (.loc 0) 8) (.int 0)) (.seq (.ret (.bool false)) .skip) .skip) (.seq (.asg (.attr (.loc 0) 8) (.bin .sub (.attr (.loc 0) 8) (.int 1))) (.seq (.ret (.bool true)) .skip))
noncomputable abbrev dTookTurn:Fn:=⟨1,1,dTookTurn_0⟩
noncomputable abbrev dEntered_0:S:=.seq (.asg (.loc 3) (.bin .add (.lst [(.loc 2)]) (.comp 2 [] [1] .range (.bin .sub (.int 4) (.int 1)) [] (.int 0)))) (.seq (.asg (.attr (.loc 0) 47) (.bin .add (.attr (.loc 0) 47) (.int 1))) (.seq (.asg (.unp [4,5]) (.meth (.loc 0) 51 [(.idx (.attr (.loc 0) 46) (.loc 1)),(.loc 3)])) (.seq (.asg (.attr (.loc 0) 47) (.bin .sub (.attr (.loc 0) 47) (.int 1))) (.seq (.if_ (.cmp .eq (.loc 4) (.str 45)) (.seq (.ret (.tup [(.str 44),(.int 0)])) .skip) .skip) (.seq (.if_ (.cmp .eq (.loc 4) (.str 43)) (.seq (.ret (.tup [(.str 44),(.loc 5)])) .skip) .skip) (.seq (.ret (.tup [(.loc 4),(.loc 5)])) .skip))))))
noncomputable abbrev dEntered:Fn:=⟨3,6,dEntered_0⟩
noncomputable abbrev dCalled_0:S:=.seq (.asg (.unp [3,4]) (.meth (.loc 0) 50 [(.idx (.loc 1) (.int 2)),(.loc 2)])) (.seq (.if_ (.cmp .ne (.loc 3) (.str 44)) (.seq (.ret (.tup [(.loc 3),(.loc 4)])) .skip) .skip) (.seq (.if_ (.not_ (.meth (.loc 0) 12 [])) (.seq (.ret (.tup [(.str 33),(.int 0)])) .skip) .skip) (.seq (.if_ (.cmp .eq (.attr (.loc 0) 47) (.int 8)) (.seq (.ret (.tup [(.str 13),(.int 102)])) .skip) .skip) (.seq (.ret (.meth (.loc 0) 48 [(.idx (.loc 1) (.int 1)),(.loc 4)])) .skip))))
noncomputable abbrev dCalled:Fn:=⟨3,5,dCalled_0⟩
noncomputable abbrev dExpression_0:S:=.seq (.asg (.loc 3) (.idx (.loc 1) (.int 0))) (.seq (.if_ (.cmp .eq (.loc 3) (.str 35)) (.seq (.ret (.tup [(.str 44),(.idx (.loc 1) (.int 1))])) .skip) .skip) (.seq (.if_ (.cmp .eq (.loc 3) (.str 36)) (.seq (.ret (.tup [(.str 44),(.idx (.loc 2) (.idx (.loc 1) (.int 1)))])) .skip) .skip) (.seq (.if_ (.cmp .eq (.loc 3) (.str 14)) (.seq (.ret (.meth (.loc 0) 49 [(.loc 1),(.loc 2)])) .skip) .skip) (.seq (.asg (.unp [4,5]) (.meth (.loc 0) 50 [(.idx (.loc 1) (.int 1)),(.loc 2)])) (.seq (.if_ (.cmp .ne (.loc 4) (.str 44)) (.seq (.ret (.tup [(.loc 4),(.loc 5)])) .skip) .skip) (.seq (.asg (.unp [4,6]) (.meth (.loc 0) 50 [(.idx (.loc 1) (.int 2)),(.loc 2)])) (.seq (.if_ (.cmp .ne (.loc 4) (.str 44)) (.seq (.ret (.tup [(.loc 4),(.loc 6)])) .skip) .skip) (.seq (.if_ (.cmp .eq (.loc 3) (.str 24)) (.seq (.ret (.tup [(.str 44),(.bin .add (.loc 5) (.loc 6))])) .skip) .skip) (.seq (.if_ (.cmp .eq (.loc 3) (.str 25)) (.seq (.ret (.tup [(.str 44),(.bin .sub (.loc 5) (.loc 6))])) .skip) .skip) (.seq (.if_ (.cmp .eq (.loc 3) (.str 26)) (.seq (.ret (.tup [(.str 44),(.bi .int [(.cmp .lt (.loc 5) (.loc 6))])])) .skip) .skip) (.seq (.if_ (.cmp .eq (.loc 6) (.int 0)) (.seq (.ret (.tup [(.str 13),(.int 101)])) .skip) .skip) (.seq (.ret (.tup [(.str 44),(.bin .div (.loc 5) (.loc 6))])) .skip))))))))))))
noncomputable abbrev dExpression:Fn:=⟨3,7,dExpression_0⟩
noncomputable abbrev dBlock_0:S:=.seq (.for_ [3] .seq (.loc 1) (.seq (.asg (.loc 4) (.meth (.loc 0) 52 [(.loc 3),(.loc 2)])) (.seq (.if_ (.cmp .ne (.idx (.loc 4) (.int 0)) (.str 45)) (.seq (.ret (.loc 4)) .skip) .skip) .skip))) (.seq (.ret (.tup [(.str 45),(.int 0)])) .skip)
noncomputable abbrev dBlock:Fn:=⟨3,5,dBlock_0⟩
noncomputable abbrev dStatement_15:S:=.seq (.if_ (.cmp .eq (.loc 3) (.str 22)) (.seq (.asg (.idx (.loc 2) (.idx (.loc 1) (.int 1))) (.loc 6)) .skip) (.seq (.if_ (.cmp .eq (.loc 3) (.str 23)) (.seq (.expr (.meth (.attr (.loc 0) 9) 0 [(.loc 6)])) .skip) (.seq (.if_ (.cmp .eq (.loc 3) (.str 43)) (.seq (.ret (.tup [(.str 43),(.loc 6)])) .skip) (.seq (.if_ (.cmp .eq (.loc 3) (.str 31)) (.seq (.ret (.tup [(.str 13),(.loc 6)])) .skip) (.seq (.if_ (.cmp .ne (.loc 6) (.int 0)) (.seq (.ret (.meth (.loc 0) 51 [(.idx (.loc 1) (.int 2)),(.loc 2)])) .skip) (.seq (.ret (.meth (.loc 0) 51 [(.idx (.loc 1) (.int 3)),(.loc 2)])) .skip)) .skip)) .skip)) .skip)) .skip)) (.seq (.ret (.tup [(.str 45),(.int 0)])) .skip)
noncomputable abbrev dStatement_13:S:=.seq (.if_ (.cmp .ne (.loc 5) (.str 44)) (.seq (.ret (.tup [(.loc 5),(.loc 6)])) .skip) .skip) dStatement_15
noncomputable abbrev dStatement_0:S:=.seq (.asg (.loc 3) (.idx (.loc 1) (.int 0))) (.seq (.if_ (.or_ (.cmp .eq (.loc 3) (.str 41)) (.cmp .eq (.loc 3) (.str 42))) (.seq (.ret (.tup [(.loc 3),(.int 0)])) .skip) .skip) (.seq (.if_ (.cmp .eq (.loc 3) (.str 38)) (.seq (.ret (.meth (.loc 0) 38 [(.loc 1),(.loc 2)])) .skip) .skip) (.seq (.if_ (.cmp .eq (.loc 3) (.str 39)) (.seq (.ret (.meth (.loc 0) 53 [(.loc 1),(.loc 2)])) .skip) .skip) (.seq (.if_ (.cmp .eq (.loc 3) (.str 40)) (.seq (.ret (.meth (.loc 0) 54 [(.loc 1),(.loc 2)])) .skip) .skip) (.seq (.asg (.loc 4) (.idx (.loc 1) (.int 1))) (.seq (.if_ (.cmp .eq (.loc 3) (.str 22)) (.seq (.asg (.loc 4) (.idx (.loc 1) (.int 2))) .skip) .skip) (.seq (.asg (.unp [5,6]) (.meth (.loc 0) 50 [(.loc 4),(.loc 2)])) dStatement_13)))))))
noncomputable abbrev dStatement:Fn:=⟨3,7,dStatement_0⟩
noncomputable abbrev dLoop_0:S:=.seq (.while_ (.bool true) (.seq (.if_ (.not_ (.meth (.loc 0) 12 [])) (.seq (.ret (.tup [(.str 33),(.int 0)])) .skip) .skip) (.seq (.asg (.unp [3,4]) (.meth (.loc 0) 50 [(.idx (.loc 1) (.int 1)),(.loc 2)])) (.seq (.if_ (.cmp .ne (.loc 3) (.str 44)) (.seq (.ret (.tup [(.loc 3),(.loc 4)])) .skip) .skip) (.seq (.if_ (.cmp .eq (.loc 4) (.int 0)) (.seq (.ret (.tup [(.str 45),(.int 0)])) .skip) .skip) (.seq (.asg (.loc 5) (.meth (.loc 0) 51 [(.idx (.loc 1) (.int 2)),(.loc 2)])) (.seq (.if_ (.cmp .eq (.idx (.loc 5) (.int 0)) (.str 41)) (.seq (.ret (.tup [(.str 45),(.int 0)])) .skip) .skip) (.seq (.if_ (.and_ (.cmp .ne (.idx (.loc 5) (.int 0)) (.str 45)) (.cmp .ne (.idx (.loc 5) (.int 0)) (.str 42))) (.seq (.ret (.loc 5)) .skip) .skip) .skip)))))))) .skip
noncomputable abbrev dLoop:Fn:=⟨3,6,dLoop_0⟩
noncomputable abbrev dCaught_0:S:=.seq (.asg (.loc 3) (.meth (.loc 0) 51 [(.idx (.loc 1) (.int 1)),(.loc 2)])) (.seq (.if_ (.or_ (.cmp .ne (.idx (.loc 3) (.int 0)) (.str 13)) (.and_ (.cmp .isnot (.idx (.loc 1) (.int 2)) .none) (.cmp .ne (.idx (.loc 1) (.int 2)) (.idx (.loc 3) (.int 1))))) (.seq (.ret (.loc 3)) .skip) .skip) (.seq (.asg (.idx (.loc 2) (.idx (.loc 1) (.int 3))) (.idx (.loc 3) (.int 1))) (.seq (.ret (.meth (.loc 0) 51 [(.idx (.loc 1) (.int 4)),(.loc 2)])) .skip)))
noncomputable abbrev dCaught:Fn:=⟨3,4,dCaught_0⟩
noncomputable abbrev dEnded_0:S:=.seq (.asg (.loc 3) (.meth (.loc 0) 51 [(.idx (.loc 1) (.int 1)),(.loc 2)])) (.seq (.if_ (.cmp .eq (.idx (.loc 3) (.int 0)) (.str 33)) (.seq (.ret (.loc 3)) .skip) .skip) (.seq (.asg (.loc 4) (.meth (.loc 0) 51 [(.idx (.loc 1) (.int 2)),(.loc 2)])) (.seq (.if_ (.cmp .ne (.idx (.loc 4) (.int 0)) (.str 45)) (.seq (.ret (.loc 4)) .skip) .skip) (.seq (.ret (.loc 3)) .skip))))
noncomputable abbrev dEnded:Fn:=⟨3,5,dEnded_0⟩
noncomputable abbrev cTold_0:S:=.seq (.expr (.call 28 [(.loc 0)])) (.seq (.asg (.loc 3) (.new 2 [(.loc 0),(.loc 2)])) (.seq (.asg (.unp [4,5]) (.meth (.loc 3) 48 [(.int 0),(.loc 1)])) (.seq (.if_ (.cmp .eq (.loc 4) (.str 44)) (.seq (.ret (.tup [(.attr (.loc 3) 9),(.str 34),(.loc 5)])) .skip) .skip) (.seq (.ret (.tup [(.attr (.loc 3) 9),(.loc 4),(.loc 5)])) .skip))))
noncomputable abbrev cTold:Fn:=⟨3,6,cTold_0⟩
end Mine
end
noncomputable section
namespace Mine
noncomputable abbrev kInit_0:S:=.seq (.asg (.attr (.loc 0) 5) (.lst [])) (.seq (.asg (.attr (.loc 0) 55) (.lst [])) (.seq (.asg (.attr (.loc 0) 6) (.lst [])) (.seq (.asg (.attr (.loc 0) 56) (.lst [])) (.seq (.asg (.attr (.loc 0) 3) (.int 4)) (.seq (.asg (.attr (.loc 0) 57) (.int 4)) .skip)))))
noncomputable abbrev kInit:Fn:=⟨1,1,kInit_0⟩
noncomputable abbrev kMark_0:S:=.seq (.expr (.meth (.attr (.loc 0) 55) 0 [(.int 0)])) (.seq (.ret (.bin .sub (.bi .len [(.attr (.loc 0) 55)]) (.int 1))) .skip)
noncomputable abbrev kMark:Fn:=⟨1,1,kMark_0⟩
noncomputable abbrev kStands_0:S:=.seq (.asg (.idx (.attr (.loc 0) 55) (.loc 1)) (.bi .len [(.attr (.loc 0) 5)])) .skip
noncomputable abbrev kStands:Fn:=⟨2,2,kStands_0⟩
noncomputable abbrev kBox_0:S:=.seq (.asg (.attr (.loc 0) 3) (.bin .add (.attr (.loc 0) 3) (.int 1))) (.seq (.asg (.attr (.loc 0) 57) (.bi .max [(.attr (.loc 0) 57),(.attr (.loc 0) 3)])) (.seq (.ret (.bin .sub (.attr (.loc 0) 3) (.int 1))) .skip))
noncomputable abbrev kBox:Fn:=⟨1,1,kBox_0⟩
noncomputable abbrev kFunction_0:S:=.seq (.asg (.attr (.loc 0) 3) (.int 4)) (.seq (.expr (.meth (.loc 0) 51 [(.loc 1)])) (.seq (.expr (.meth (.attr (.loc 0) 5) 0 [(.tup [(.str 20),(.int 0)])])) (.seq (.expr (.meth (.attr (.loc 0) 5) 0 [(.tup [(.str 15)])])) .skip)))
noncomputable abbrev kFunction:Fn:=⟨2,2,kFunction_0⟩
noncomputable abbrev kBlock_0:S:=.seq (.for_ [2] .seq (.loc 1) (.seq (.expr (.meth (.loc 0) 52 [(.loc 2)])) .skip)) .skip
noncomputable abbrev kBlock:Fn:=⟨2,3,kBlock_0⟩
noncomputable abbrev kExpression_0:S:=.seq (.if_ (.cmp .eq (.idx (.loc 1) (.int 0)) (.str 35)) (.seq (.expr (.meth (.attr (.loc 0) 5) 0 [(.tup [(.str 20),(.idx (.loc 1) (.int 1))])])) .skip) (.seq (.if_ (.cmp .eq (.idx (.loc 1) (.int 0)) (.str 36)) (.seq (.expr (.meth (.attr (.loc 0) 5) 0 [(.tup [(.str 21),(.idx (.loc 1) (.int 1))])])) .skip) (.seq (.if_ (.cmp .eq (.idx (.loc 1) (.int 0)) (.str 14)) (.seq (.expr (.meth (.loc 0) 50 [(.idx (.loc 1) (.int 2))])) (.seq (.expr (.meth (.attr (.loc 0) 5) 0 [(.tup [(.str 14),(.idx (.loc 1) (.int 1))])])) .skip)) (.seq (.expr (.meth (.loc 0) 50 [(.idx (.loc 1) (.int 1))])) (.seq (.expr (.meth (.loc 0) 50 [(.idx (.loc 1) (.int 2))])) (.seq (.expr (.meth (.attr (.loc 0) 5) 0 [(.tup [(.idx (.loc 1) (.int 0))])])) .skip)))) .skip)) .skip)) .skip
noncomputable abbrev kExpression:Fn:=⟨2,2,kExpression_0⟩
noncomputable abbrev kStatement_0:S:=.seq (.asg (.loc 2) (.idx (.loc 1) (.int 0))) (.seq (.if_ (.cmp .eq (.loc 2) (.str 22)) (.seq (.expr (.meth (.loc 0) 50 [(.idx (.loc 1) (.int 2))])) (.seq (.expr (.meth (.attr (.loc 0) 5) 0 [(.tup [(.str 22),(.idx (.loc 1) (.int 1))])])) .skip)) (.seq (.if_ (.or_ (.cmp .eq (.loc 2) (.str 23)) (.cmp .eq (.loc 2) (.str 31))) (.seq (.expr (.meth (.loc 0) 50 [(.idx (.loc 1) (.int 1))])) (.seq (.expr (.meth (.attr (.loc 0) 5) 0 [(.tup [(.loc 2)])])) .skip)) (.seq (.if_ (.cmp .eq (.loc 2) (.str 43)) (.seq (.expr (.meth (.loc 0) 43 [(.idx (.loc 1) (.int 1))])) .skip) (.seq (.if_ (.cmp .eq (.loc 2) (.str 37)) (.seq (.expr (.meth (.loc 0) 62 [(.loc 1)])) .skip) (.seq (.if_ (.cmp .eq (.loc 2) (.str 38)) (.seq (.expr (.meth (.loc 0) 38 [(.loc 1)])) .skip) (.seq (.if_ (.cmp .eq (.loc 2) (.str 39)) (.seq (.expr (.meth (.loc 0) 63 [(.loc 1)])) .skip) (.seq (.if_ (.cmp .eq (.loc 2) (.str 40)) (.seq (.expr (.meth (.loc 0) 65 [(.loc 1)])) .skip) (.seq (.expr (.meth (.loc 0) 17 [(.loc 2)])) .skip)) .skip)) .skip)) .skip)) .skip)) .skip)) .skip)) .skip)
noncomputable abbrev kStatement:Fn:=⟨2,3,kStatement_0⟩
noncomputable abbrev kByWayOf_0:S:=.seq (.asg (.loc 2) (.meth (.loc 0) 58 [])) (.seq (.expr (.meth (.attr (.loc 0) 5) 0 [(.tup [(.str 2),(.loc 2)])])) (.seq (.expr (.meth (.attr (.loc 0) 5) 0 [(.tup [(.str 22),(.idx (.loc 1) (.int 2))])])) (.seq (.expr (.meth (.attr (.loc 0) 5) 0 [(.tup [(.str 28),(.idx (.loc 1) (.int 1))])])) (.seq (.expr (.meth (.loc 0) 59 [(.loc 2)])) .skip))))
noncomputable abbrev kByWayOf:Fn:=⟨2,3,kByWayOf_0⟩
noncomputable abbrev kGive_0:S:=.seq (.expr (.meth (.loc 0) 50 [(.loc 1)])) (.seq (.asg (.loc 2) (.comp 2 [] [1] .seq (.attr (.loc 0) 56) [(.cmp .eq (.idx (.loc 1) (.int 0)) (.str 40))] (.loc 1))) (.seq (.if_ (.cmp .gt (.bi .len [(.loc 2)]) (.int 0)) (.seq (.asg (.loc 3) (.meth (.loc 0) 36 [])) (.seq (.expr (.meth (.attr (.loc 0) 5) 0 [(.tup [(.str 22),(.loc 3)])])) (.seq (.for_ [4] .rev (.loc 2) (.seq (.expr (.meth (.loc 0) 61 [(.loc 4)])) .skip)) (.seq (.expr (.meth (.attr (.loc 0) 5) 0 [(.tup [(.str 21),(.loc 3)])])) .skip)))) .skip) (.seq (.expr (.meth (.attr (.loc 0) 5) 0 [(.tup [(.str 15)])])) .skip)))
noncomputable abbrev kGive:Fn:=⟨2,5,kGive_0⟩
noncomputable abbrev kLeap_0:S:=.seq (.for_ [2] .rev (.attr (.loc 0) 56) (.seq (.if_ (.cmp .eq (.idx (.loc 2) (.int 0)) (.str 38)) (.seq (.if_ (.cmp .eq (.loc 1) (.str 42)) (.seq (.expr (.meth (.attr (.loc 0) 5) 0 [(.tup [(.str 28),(.idx (.loc 2) (.int 1))])])) .skip) (.seq (.expr (.meth (.attr (.loc 0) 5) 0 [(.tup [(.str 28),(.idx (.loc 2) (.int 2))])])) .skip)) (.seq (.ret .none) .skip)) .skip) (.seq (.expr (.meth (.loc 0) 61 [(.loc 2)])) .skip))) .skip
noncomputable abbrev kLeap:Fn:=⟨2,3,kLeap_0⟩
noncomputable abbrev kChoice_0:S:=.seq (.asg (.loc 2) (.meth (.loc 0) 58 [])) (.seq (.asg (.loc 3) (.meth (.loc 0) 58 [])) (.seq (.expr (.meth (.loc 0) 50 [(.idx (.loc 1) (.int 1))])) (.seq (.expr (.meth (.attr (.loc 0) 5) 0 [(.tup [(.str 29),(.loc 2)])])) (.seq (.expr (.meth (.loc 0) 51 [(.idx (.loc 1) (.int 2))])) (.seq (.expr (.meth (.attr (.loc 0) 5) 0 [(.tup [(.str 28),(.loc 3)])])) (.seq (.expr (.meth (.loc 0) 59 [(.loc 2)])) (.seq (.expr (.meth (.loc 0) 51 [(.idx (.loc 1) (.int 3))])) (.seq (.expr (.meth (.loc 0) 59 [(.loc 3)])) .skip))))))))
noncomputable abbrev kChoice:Fn:=⟨2,4,kChoice_0⟩
noncomputable abbrev kLoop_0:S:=.seq (.asg (.loc 2) (.meth (.loc 0) 58 [])) (.seq (.asg (.loc 3) (.meth (.loc 0) 58 [])) (.seq (.expr (.meth (.loc 0) 59 [(.loc 2)])) (.seq (.expr (.meth (.attr (.loc 0) 5) 0 [(.tup [(.str 32)])])) (.seq (.expr (.meth (.loc 0) 50 [(.idx (.loc 1) (.int 1))])) (.seq (.expr (.meth (.attr (.loc 0) 5) 0 [(.tup [(.str 29),(.loc 3)])])) (.seq (.expr (.meth (.attr (.loc 0) 56) 0 [(.tup [(.str 38),(.loc 2),(.loc 3)])])) (.seq (.expr (.meth (.loc 0) 51 [(.idx (.loc 1) (.int 2))])) (.seq (.expr (.meth (.attr (.loc 0) 56) 1 [])) (.seq (.expr (.meth (.attr (.loc 0) 5) 0 [(.tup [(.str 28),(.loc 2)])])) (.seq (.expr (.meth (.loc 0) 59 [(.loc 3)])) .skip))))))))))
noncomputable abbrev kLoop:Fn:=⟨2,4,kLoop_0⟩
noncomputable abbrev kCatching_0:S:=.seq (.asg (.loc 2) (.meth (.loc 0) 58 [])) (.seq (.asg (.loc 3) (.meth (.loc 0) 58 [])) (.seq (.asg (.loc 4) (.meth (.loc 0) 58 [])) (.seq (.asg (.loc 5) (.bi .len [(.attr (.loc 0) 5)])) (.seq (.expr (.meth (.loc 0) 51 [(.idx (.loc 1) (.int 1))])) (.seq (.expr (.meth (.attr (.loc 0) 6) 0 [(.tup [(.loc 5),(.bi .len [(.attr (.loc 0) 5)]),(.loc 2)])])) (.seq (.expr (.meth (.attr (.loc 0) 5) 0 [(.tup [(.str 28),(.loc 4)])])) (.seq (.expr (.meth (.loc 0) 59 [(.loc 2)])) (.seq (.if_ (.cmp .is_ (.idx (.loc 1) (.int 2)) .none) (.seq (.expr (.meth (.attr (.loc 0) 5) 0 [(.tup [(.str 22),(.idx (.loc 1) (.int 3))])])) .skip) (.seq (.expr (.meth (.loc 0) 64 [(.loc 1),(.loc 3)])) .skip)) (.seq (.expr (.meth (.loc 0) 51 [(.idx (.loc 1) (.int 4))])) (.seq (.expr (.meth (.loc 0) 59 [(.loc 4)])) .skip))))))))))
noncomputable abbrev kCatching:Fn:=⟨2,6,kCatching_0⟩
noncomputable abbrev kPicked_0:S:=.seq (.asg (.loc 3) (.meth (.loc 0) 36 [])) (.seq (.expr (.meth (.attr (.loc 0) 5) 0 [(.tup [(.str 22),(.loc 3)])])) (.seq (.expr (.meth (.attr (.loc 0) 5) 0 [(.tup [(.str 21),(.loc 3)])])) (.seq (.expr (.meth (.attr (.loc 0) 5) 0 [(.tup [(.str 20),(.idx (.loc 1) (.int 2))])])) (.seq (.expr (.meth (.attr (.loc 0) 5) 0 [(.tup [(.str 25)])])) (.seq (.expr (.meth (.attr (.loc 0) 5) 0 [(.tup [(.str 29),(.loc 2)])])) (.seq (.expr (.meth (.attr (.loc 0) 5) 0 [(.tup [(.str 21),(.loc 3)])])) (.seq (.expr (.meth (.attr (.loc 0) 5) 0 [(.tup [(.str 31)])])) (.seq (.expr (.meth (.loc 0) 59 [(.loc 2)])) (.seq (.expr (.meth (.attr (.loc 0) 5) 0 [(.tup [(.str 21),(.loc 3)])])) (.seq (.expr (.meth (.attr (.loc 0) 5) 0 [(.tup [(.str 22),(.idx (.loc 1) (.int 3))])])) .skip))))))))))
noncomputable abbrev kPicked:Fn:=⟨3,4,kPicked_0⟩
noncomputable abbrev kEnding_0:S:=.seq (.asg (.loc 2) (.meth (.loc 0) 58 [])) (.seq (.asg (.loc 3) (.meth (.loc 0) 58 [])) (.seq (.asg (.loc 4) (.meth (.loc 0) 58 [])) (.seq (.asg (.loc 5) (.tup [(.str 40),(.loc 2),(.meth (.loc 0) 36 [])])) (.seq (.asg (.loc 6) (.meth (.loc 0) 36 [])) (.seq (.asg (.loc 7) (.bi .len [(.attr (.loc 0) 5)])) (.seq (.expr (.meth (.attr (.loc 0) 56) 0 [(.loc 5)])) (.seq (.expr (.meth (.loc 0) 51 [(.idx (.loc 1) (.int 1))])) (.seq (.expr (.meth (.attr (.loc 0) 56) 1 [])) (.seq (.expr (.meth (.attr (.loc 0) 6) 0 [(.tup [(.loc 7),(.bi .len [(.attr (.loc 0) 5)]),(.loc 3)])])) (.seq (.expr (.meth (.loc 0) 61 [(.loc 5)])) (.seq (.expr (.meth (.attr (.loc 0) 5) 0 [(.tup [(.str 28),(.loc 4)])])) (.seq (.expr (.meth (.loc 0) 59 [(.loc 3)])) (.seq (.expr (.meth (.attr (.loc 0) 5) 0 [(.tup [(.str 22),(.loc 6)])])) (.seq (.expr (.meth (.loc 0) 61 [(.loc 5)])) (.seq (.expr (.meth (.attr (.loc 0) 5) 0 [(.tup [(.str 21),(.loc 6)])])) (.seq (.expr (.meth (.attr (.loc 0) 5) 0 [(.tup [(.str 31)])])) (.seq (.expr (.meth (.loc 0) 59 [(.loc 2)])) (.seq (.expr (.meth (.loc 0) 51 [(.idx (.loc 1) (.int 2))])) (.seq (.expr (.meth (.attr (.loc 0) 5) 0 [(.tup [(.str 30),(.idx (.loc 5) (.int 2))])])) (.seq (.expr (.meth (.loc 0) 59 [(.loc 4)])) .skip))))))))))))))))))))
noncomputable abbrev kEnding:Fn:=⟨2,8,kEnding_0⟩
noncomputable abbrev kToldRow_0:S:=.seq (.if_ (.or_ (.cmp .eq (.idx (.loc 1) (.int 0)) (.str 28)) (.cmp .eq (.idx (.loc 1) (.int 0)) (.str 29))) (.seq (.ret (.tup [(.idx (.loc 1) (.int 0)),(.idx (.attr (.loc 0) 55) (.idx (.loc 1) (.int 1)))])) .skip) .skip) (.seq (.if_ (.cmp .eq (.idx (.loc 1) (.int 0)) (.str 2)) (.seq (.ret (.tup [(.str 20),(.idx (.attr (.loc 0) 55) (.idx (.loc 1) (.int 1)))])) .skip) .skip) (.seq (.ret (.loc 1)) .skip))
noncomputable abbrev kToldRow:Fn:=⟨2,2,kToldRow_0⟩
noncomputable abbrev cMade_0:S:=.seq (.expr (.call 28 [(.loc 0)])) (.seq (.asg (.loc 1) (.new 3 [])) (.seq (.asg (.loc 2) (.lst [])) (.seq (.for_ [3] .seq (.loc 0) (.seq (.expr (.meth (.loc 2) 0 [(.bi .len [(.attr (.loc 1) 5)])])) (.seq (.expr (.meth (.loc 1) 60 [(.loc 3)])) .skip))) (.seq (.asg (.loc 4) (.comp 3 [(2,1)] [1] .seq (.attr (.loc 1) 5) [] (.meth (.loc 2) 66 [(.loc 1)]))) (.seq (.asg (.loc 5) (.comp 3 [(2,1)] [1] .seq (.attr (.loc 1) 6) [] (.tup [(.idx (.loc 1) (.int 0)),(.idx (.loc 1) (.int 1)),(.idx (.attr (.loc 2) 55) (.idx (.loc 1) (.int 2)))]))) (.seq (.ret (.tup [(.loc 4),(.loc 5),(.loc 2),(.attr (.loc 1) 57)])) .skip))))))
noncomputable abbrev cMade:Fn:=⟨1,6,cMade_0⟩
end Mine
end
noncomputable section
namespace Mine
noncomputable abbrev zDeepTree_0:S:=.seq (.asg (.loc 3) (.loc 2)) (.seq (.for_ [4] .range (.bin .sub (.loc 0) (.int 1)) (.seq (.asg (.loc 3) (.idx (.lst [(.tup [(.str 24),(.loc 3),(.tup [(.str 36),(.int 0)])]),(.tup [(.str 14),(.int 0),(.loc 3)]),(.tup [(.str 25),(.tup [(.str 35),(.int 2)]),(.loc 3)])]) (.bin .mod (.bin .add (.loc 1) (.loc 4)) (.int 3)))) .skip)) (.seq (.ret (.loc 3)) .skip))
noncomputable abbrev zDeepTree:Fn:=⟨3,5,zDeepTree_0⟩
noncomputable abbrev zTree_14:S:=.seq (.asg (.loc 5) (.bin .mod (.bin .div (.loc 2) (.int 6)) (.int 6))) (.seq (.if_ (.cmp .eq (.loc 5) (.int 1)) (.seq (.ret (.tup [(.tup [(.str 24),(.loc 3),(.tup [(.str 35),(.int 1)])]),(.loc 4)])) .skip) .skip) (.seq (.if_ (.cmp .eq (.loc 5) (.int 2)) (.seq (.ret (.tup [(.tup [(.str 26),(.tup [(.str 35),(.int 1)]),(.loc 3)]),(.loc 4)])) .skip) .skip) (.seq (.if_ (.cmp .eq (.loc 5) (.int 3)) (.seq (.ret (.tup [(.tup [(.str 27),(.loc 3),(.tup [(.str 36),(.int 3)])]),(.loc 4)])) .skip) .skip) (.seq (.if_ (.cmp .eq (.loc 5) (.int 4)) (.seq (.ret (.tup [(.tup [(.str 14),(.int 0),(.loc 3)]),(.loc 4)])) .skip) .skip) (.seq (.if_ (.and_ (.cmp .eq (.loc 5) (.int 5)) (.cmp .eq (.loc 4) (.str 36))) (.seq (.ret (.tup [(.tup [(.str 25),(.loc 3),(.tup [(.str 14),(.loc 1),(.tup [(.str 35),(.int 0)])])]),(.loc 4)])) .skip) .skip) (.seq (.if_ (.cmp .eq (.loc 5) (.int 5)) (.seq (.ret (.tup [(.tup [(.str 24),(.loc 3),(.tup [(.str 36),(.int 9)])]),(.idx (.lst [(.loc 4),(.str 36)]) (.bi .int [(.cmp .eq (.loc 4) (.str 68))]))])) .skip) .skip) (.seq (.ret (.tup [(.loc 3),(.loc 4)])) .skip)))))))
noncomputable abbrev zTree_0:S:=.seq (.asg (.loc 2) (.bin .div (.loc 0) (.int 5))) (.seq (.if_ (.cmp .eq (.bin .mod (.loc 0) (.int 5)) (.int 0)) (.seq (.asg (.loc 3) (.tup [(.str 36),(.idx (.lst [(.int 4),(.int (-1)),(.int 100000000000000000000)]) (.bin .mod (.loc 2) (.int 3)))])) (.seq (.asg (.loc 4) (.str 36)) .skip)) (.seq (.if_ (.cmp .eq (.bin .mod (.loc 0) (.int 5)) (.int 1)) (.seq (.asg (.loc 3) (.tup [(.str 14),(.idx (.lst [(.loc 1),(.int (-1)),(.int 100000000000000000000)]) (.bin .mod (.loc 2) (.int 3))),(.tup [(.str 36),(.bin .mul (.int 9) (.bin .mod (.bin .div (.loc 2) (.int 3)) (.int 2)))])])) (.seq (.asg (.loc 4) (.str 60)) .skip)) (.seq (.if_ (.cmp .eq (.bin .mod (.loc 0) (.int 5)) (.int 2)) (.seq (.asg (.loc 3) (.call 13 [(.int 7),(.loc 2),(.idx (.lst [(.tup [(.str 35),(.int 1)]),(.tup [(.str 36),(.int 9)]),(.tup [(.str 14),(.loc 1),(.tup [(.str 35),(.int 0)])])]) (.bin .mod (.bin .div (.loc 2) (.int 3)) (.int 3)))])) (.seq (.ret (.tup [(.idx (.lst [(.loc 3),(.tup [(.str 24),(.loc 3),(.tup [(.str 36),(.int 9)])])]) (.bin .mod (.bin .div (.loc 2) (.int 9)) (.int 2))),(.str 47)])) .skip)) (.seq (.if_ (.cmp .eq (.bin .mod (.loc 0) (.int 5)) (.int 3)) (.seq (.ret (.tup [(.call 13 [(.int 6),(.loc 2),(.tup [(.str 35),(.int 1)])]),(.str 68)])) .skip) (.seq (.asg (.loc 3) (.tup [(.str 14),(.bin .sub (.loc 1) (.int 1)),(.tup [(.str 36),(.int 3)])])) (.seq (.asg (.loc 4) (.str 68)) .skip))) .skip)) .skip)) .skip)) zTree_14)
noncomputable abbrev zTree:Fn:=⟨2,6,zTree_0⟩
noncomputable abbrev zStatement_0:S:=.seq (.asg (.loc 3) (.bin .mod (.loc 0) (.int 9))) (.seq (.asg (.loc 4) (.call 14 [(.loc 1),(.loc 2)])) (.seq (.asg (.loc 5) (.idx (.loc 4) (.int 0))) (.seq (.if_ (.cmp .lt (.loc 3) (.int 6)) (.seq (.asg (.loc 6) (.lst [(.tup [(.str 22),(.int 3),(.loc 5)]),(.tup [(.str 23),(.loc 5)]),(.tup [(.str 37),(.loc 5),(.lst []),(.lst [])]),(.tup [(.str 38),(.loc 5),(.lst [])])])) (.seq (.asg (.loc 6) (.bin .add (.loc 6) (.lst [(.tup [(.str 43),(.loc 5)]),(.tup [(.str 31),(.loc 5)])]))) (.seq (.ret (.tup [(.idx (.loc 6) (.loc 3)),(.idx (.loc 4) (.int 1))])) .skip))) .skip) (.seq (.if_ (.cmp .eq (.loc 3) (.int 6)) (.seq (.ret (.tup [(.tup [(.str 22),(.idx (.lst [(.int 4),(.int (-1)),(.int 100000000000000000000)]) (.bin .mod (.bin .div (.loc 0) (.int 9)) (.int 3))),(.loc 5)]),(.str 36)])) .skip) .skip) (.seq (.if_ (.cmp .eq (.loc 3) (.int 7)) (.seq (.ret (.tup [(.tup [(.str 39),(.lst [(.tup [(.str 23),(.tup [(.str 35),(.int 0)])])]),.none,(.idx (.lst [(.int 4),(.int (-1))]) (.bin .mod (.bin .div (.loc 0) (.int 9)) (.int 2))),(.lst [(.tup [(.str 23),(.loc 5)])])]),(.str 36)])) .skip) .skip) (.seq (.ret (.tup [(.tup [(.idx (.lst [(.str 41),(.str 42)]) (.bin .mod (.bin .div (.loc 0) (.int 9)) (.int 2)))]),(.str 38)])) .skip))))))
noncomputable abbrev zStatement:Fn:=⟨3,7,zStatement_0⟩
noncomputable abbrev zAround_0:S:=.seq (.asg (.loc 3) (.bin .mul (.lst [(.tup [(.str 22),(.int 7),(.tup [(.str 35),(.int 0)])])]) (.bi .int [(.loc 2)]))) (.seq (.if_ (.cmp .eq (.loc 1) (.int 0)) (.seq (.ret (.lst [(.tup [(.str 37),(.tup [(.str 36),(.int 1)]),(.loc 0),(.loc 3)]),(.tup [(.str 23),(.tup [(.str 36),(.int 2)])])])) .skip) .skip) (.seq (.if_ (.cmp .eq (.loc 1) (.int 1)) (.seq (.ret (.lst [(.tup [(.str 37),(.tup [(.str 36),(.int 1)]),(.lst []),(.loc 0)])])) .skip) .skip) (.seq (.if_ (.cmp .eq (.loc 1) (.int 2)) (.seq (.ret (.lst [(.tup [(.str 22),(.int 0),(.tup [(.str 35),(.int 1)])]),(.tup [(.str 39),(.loc 0),.none,(.int 1),(.loc 3)]),(.tup [(.str 23),(.tup [(.str 35),(.int 3)])])])) .skip) .skip) (.seq (.if_ (.cmp .eq (.loc 1) (.int 3)) (.seq (.ret (.lst [(.tup [(.str 39),(.lst []),(.int 3),(.int 1),(.loc 0)])])) .skip) .skip) (.seq (.if_ (.cmp .eq (.loc 1) (.int 4)) (.seq (.ret (.lst [(.tup [(.str 40),(.loc 0),(.loc 3)]),(.tup [(.str 31),(.tup [(.str 35),(.int 2)])])])) .skip) .skip) (.seq (.if_ (.cmp .eq (.loc 1) (.int 5)) (.seq (.ret (.lst [(.tup [(.str 23),(.tup [(.str 35),(.int 3)])]),(.tup [(.str 40),(.lst []),(.loc 0)])])) .skip) .skip) (.seq (.ret (.lst [(.tup [(.str 38),(.tup [(.str 35),(.int 0)]),(.loc 0)])])) .skip)))))))
noncomputable abbrev zAround:Fn:=⟨3,4,zAround_0⟩
noncomputable abbrev zDue_0:S:=.seq (.if_ (.and_ (.cmp .eq (.loc 1) (.int 7)) (.cmp .eq (.idx (.idx (.loc 0) (.int 0)) (.int 0)) (.str 39))) (.seq (.ret (.str 47)) .skip) .skip) (.seq (.if_ (.and_ (.cmp .eq (.idx (.loc 0) (.int 1)) (.str 38)) (.loc 2)) (.seq (.ret (.str 68)) .skip) .skip) (.seq (.if_ (.and_ (.cmp .eq (.idx (.loc 0) (.int 1)) (.str 68)) (.and_ (.cmp .eq (.loc 1) (.int 7)) (.cmp .in_ (.idx (.idx (.loc 0) (.int 0)) (.int 0)) (.tup [(.str 37),(.str 38)])))) (.seq (.ret (.str 47)) .skip) .skip) (.seq (.ret (.idx (.loc 0) (.int 1))) .skip)))
noncomputable abbrev zDue:Fn:=⟨3,3,zDue_0⟩
noncomputable abbrev zProgram_15:S:=.seq (.asg (.loc 11) (.cmp .eq (.bin .mod (.call 12 [(.loc 0),(.bin .add (.int 14) (.loc 6))]) (.int 5)) (.int 1))) (.seq (.asg (.loc 9) (.call 16 [(.loc 9),(.idx (.loc 7) (.loc 6)),(.loc 11)])) (.seq (.if_ (.and_ (.cmp .eq (.loc 10) (.str 68)) (.and_ (.loc 11) (.cmp .in_ (.idx (.loc 7) (.loc 6)) (.tup [(.int 0),(.int 2),(.int 4)])))) (.seq (.asg (.loc 10) (.str 36)) .skip) .skip) .skip))
noncomputable abbrev zProgram_19:S:=.seq (.asg (.loc 12) (.bin .mod (.bin .div (.loc 1) (.int 72)) (.loc 2))) (.seq (.asg (.loc 13) (.comp 2 [] [1] .range (.loc 2) [] (.lst [(.tup [(.str 43),(.tup [(.str 36),(.int 0)])])]))) (.seq (.asg (.idx (.loc 13) (.loc 12)) (.loc 9)) (.seq (.if_ (.and_ (.cmp .eq (.bin .mod (.bin .div (.loc 1) (.int 288)) (.int 3)) (.int 1)) (.cmp .lt (.bin .add (.loc 12) (.int 1)) (.loc 2))) (.seq (.asg (.idx (.loc 13) (.bin .sub (.loc 2) (.int 1))) (.lst [(.tup [(.str 23),(.tup [(.str 35),(.int 0)])]),(.tup [(.str 22),(.int 7),(.tup [(.str 35),(.int 0)])])])) (.seq (.if_ (.cmp .eq (.loc 10) (.str 68)) (.seq (.asg (.loc 10) (.str 36)) .skip) .skip) .skip)) .skip) (.seq (.ret (.tup [(.loc 13),(.loc 10)])) .skip))))
noncomputable abbrev zProgram_14:S:=.seq (.for_ [6] .range (.loc 5) zProgram_15) zProgram_19
noncomputable abbrev zProgram_9:S:=.seq (.asg (.loc 10) (.str 47)) (.seq (.if_ (.cmp .lt (.loc 5) (.int 8)) (.seq (.asg (.loc 10) (.call 17 [(.loc 3),(.loc 5),(.cmp .in_ (.int 6) (.loc 7))])) (.seq (.if_ (.cmp .eq (.loc 10) (.str 68)) (.seq (.asg (.loc 10) (.call 17 [(.loc 4),(.loc 5),(.cmp .in_ (.int 6) (.loc 7))])) .skip) .skip) .skip)) .skip) zProgram_14)
noncomputable abbrev zProgram_0:S:=.seq (.asg (.loc 1) (.bin .mod (.bin .mul (.call 12 [(.loc 0),(.int 0)]) (.int 48271)) (.int 1000003))) (.seq (.asg (.loc 2) (.bin .add (.int 1) (.bin .mod (.loc 1) (.int 4)))) (.seq (.asg (.loc 3) (.call 15 [(.call 12 [(.loc 0),(.int 1)]),(.call 12 [(.loc 0),(.int 2)]),(.loc 2)])) (.seq (.asg (.loc 4) (.call 15 [(.call 12 [(.loc 0),(.int 3)]),(.call 12 [(.loc 0),(.int 4)]),(.loc 2)])) (.seq (.asg (.loc 5) (.bin .mod (.call 12 [(.loc 0),(.int 5)]) (.int 9))) (.seq (.asg (.loc 7) (.comp 3 [(2,0)] [1] .range (.loc 5) [] (.bin .mod (.call 12 [(.loc 2),(.bin .add (.int 6) (.loc 1))]) (.int 7)))) (.seq (.asg (.loc 8) (.lst [(.tup [(.str 23),(.tup [(.str 35),(.int 5)])]),(.tup [(.str 43),(.tup [(.str 36),(.int 3)])])])) (.seq (.asg (.loc 9) (.bin .add (.bin .add (.bin .mul (.slc (.loc 8) .none (.bin .mod (.bin .div (.loc 1) (.int 4)) (.int 3))) (.idx (.lst [(.int 1),(.int 1),(.int 30)]) (.bin .mod (.bin .div (.loc 1) (.int 864)) (.int 3)))) (.lst [(.idx (.loc 3) (.int 0))])) (.slc (.loc 8) (.bin .mod (.bin .div (.loc 1) (.int 12)) (.int 3)) .none))) (.seq (.asg (.loc 9) (.bin .add (.bin .add (.loc 9) (.lst [(.idx (.loc 4) (.int 0))])) (.slc (.loc 8) .none (.bin .mod (.bin .div (.loc 1) (.int 36)) (.int 2))))) zProgram_9))))))))
noncomputable abbrev zProgram:Fn:=⟨1,14,zProgram_0⟩
noncomputable abbrev zLaw_4:S:=.seq (.if_ (.or_ (.cmp .ne (.int 4) (.int 4)) (.or_ (.cmp .ne (.int 8) (.int 8)) (.cmp .ne (.int 6) (.int 6)))) (.seq (.ret (.bool false)) .skip) .skip) (.seq (.if_ (.and_ (.cmp .eq (.loc 2) (.str 68)) (.cmp .isnot (.call 28 [(.loc 3)]) .none)) (.seq (.ret (.bool false)) .skip) .skip) .skip)
noncomputable abbrev zLaw_0:S:=.seq (.asg (.loc 1) (.call 18 [(.loc 0)])) (.seq (.asg (.loc 3) (.idx (.loc 1) (.int 0))) (.seq (.asg (.loc 2) (.idx (.loc 1) (.int 1))) (.seq (.if_ (.cmp .eq (.bin .mod (.bin .div (.call 12 [(.loc 0),(.int 5)]) (.int 9)) (.int 13)) (.int 5)) (.seq (.asg (.loc 3) (.lst [])) (.seq (.asg (.loc 2) (.str 60)) .skip)) .skip) zLaw_4)))
noncomputable abbrev zLaw_e:E:=.or_ (.cmp .eq (.loc 3) (.lst [])) (.cmp .eq (.loc 3) (.idx (.call 18 [(.loc 0)]) (.int 0)))
end Mine
end
noncomputable section
set_option maxHeartbeats 8000000
namespace Mine.L06
open Mine PySem PySem.W PyProof.Rows
noncomputable def law:Law where
  fns:=[dTookTurn,dTookTurn,dTookTurn,dTookTurn,dTookTurn,dTookTurn,dTookTurn,dTookTurn,dTookTurn,dTookTurn,dTookTurn,dTookTurn,fCellAt,zDeepTree,zTree,zStatement,zAround,zDue,zProgram,dTookTurn,dTookTurn,dTookTurn,dTookTurn,cWithin,cNeedBox,cLookExpression,cLookBlock,cLookStatement,cChecked,dInit,dTookTurn,dEntered,dCalled,dExpression,dBlock,dStatement,dLoop,dCaught,dEnded,cTold,kInit,kMark,kStands,kBox,kFunction,kBlock,kExpression,kStatement,kByWayOf,kGive,kLeap,kChoice,kLoop,kCatching,kPicked,kEnding,kToldRow,cMade]
  ws := [.ofString "append", .ofString "pop", .ofString "place", .ofString "boxes", .ofString "pile", .ofString "rows", .ofString "stretches", .ofString "begins", .ofString "turns", .ofString "said", .ofString "frames", .ofString "told", .ofString "took_turn", .ofString "fault", .ofString "call", .ofString "back", .ofString "reckon", .ofString "leap", .ofString "plain", .ofString "step", .ofString "put", .ofString "get", .ofString "set", .ofString "say", .ofString "add", .ofString "sub", .ofString "less", .ofString "share", .ofString "go", .ofString "nought", .ofString "on", .ofString "raise", .ofString "turn", .ofString "tired", .ofString "answer", .ofString "num", .ofString "box", .ofString "if", .ofString "loop", .ofString "catch", .ofString "end", .ofString "leave", .ofString "next", .ofString "give", .ofString "number", .ofString "behind", .ofString "program", .ofString "deep", .ofString "entered", .ofString "called", .ofString "expression", .ofString "block", .ofString "statement", .ofString "caught", .ofString "ended", .ofString "marks", .ofString "around", .ofString "most", .ofString "mark", .ofString "stands", .ofString "function", .ofString "by_way_of", .ofString "choice", .ofString "catching", .ofString "picked", .ofString "ending", .ofString "told_row", .ofString "value", .ofString "", .ofString "NoBox", .ofString "NoFunction", .ofString "NoLoop", .ofString "TooDeep"]
  fnL:=[274,274,274,274,274,274,274,274,274,274,274,274,349,356,363,370,377,391,396,274,274,274,274,82,89,96,103,110,117,267,274,279,286,293,300,307,314,321,328,342,131,138,145,152,159,166,173,180,187,192,199,206,213,220,227,234,241,253]
  clsL:=[331,331,331,244]
  ats:=[[],[],dAtl,kAtl]
  meths:=[[],[],dTab,kTab]
  inits:=[none,none,some 29,some 40]
noncomputable def six : Six := ⟨384, .ref 24, ⟨"_law_deed", "_law_due_here", "e", "_law_kinds", "MillError", "ValueError", "", .add (.kind "box" "NoBox") (.kind "function" "NoFunction"), .add (.add (.name "_law_kinds") (.kind "loop" "NoLoop")) (.kind "deep" "TooDeep")⟩, ⟨zLaw_0, ⟨"_law_caught", "_law_due_here", "_law_program_here", 28, [.loc 0], 513, 23⟩, ⟨"_law_caught", "_law_due_here", "_law_program_here", 57, [.loc 0], 515, 23⟩, ⟨"_law_caught", "_law_due_here", "_law_program_here", 39, [.loc 0, .int 0, .int 3], 517, 23⟩, zLaw_e, 3, 2⟩, 402, 398, [(69, 36), (70, 60), (71, 38), (72, 47)]⟩
noncomputable abbrev rwL:OpenLaw:=PySem.Challenge.rw_uf010007_06
noncomputable abbrev ads:List Addr:=[2,3,15,22,23,24,25,28,35,36,37,40,47,48,49,52,59,60,61,64,71,72,73,76,78,79,81,82,83,85,86,88,89,90,92,93,95,96,97,99,100,102,103,104,106,107,109,110,111,113,114,116,117,125,127,128,130,131,132,134,135,137,138,139,141,142,144,145,146,148,149,151,152,153,155,156,158,159,160,162,163,165,166,167,169,170,172,173,174,176,177,179,180,181,183,184,186,187,188,191,192,193,195,196,198,199,200,202,203,205,206,207,209,210,212,213,214,216,217,219,220,221,223,224,226,227,228,230,231,233,234,235,237,238,240,241,242,243,244,245,246,249,252,253,261,263,264,266,267,268,270,271,273,274,275,278,279,280,282,283,285,286,287,289,290,292,293,294,296,297,299,300,301,303,304,306,307,308,310,311,313,314,315,317,318,320,321,322,324,325,327,328,329,330,331,332,333,336,338,339,341,342,343,345,346,348,349,350,352,353,355,356,357,359,360,362,363,364,366,367,369,370,371,373,374,376,377,378,380,381,383,384,385,387,388,390,391,392,395,396,397,399,400,402,403]
theorem said:rwL.wellSaid = true:=by kernel_rfl
theorem left0 : ∀ w, (openT rwL.row.prog w 6034).map (fun x => (goodT rwL.row.prog x.1 x.2.abs, nsIn (fragT ads x.2) mainGlobals "law")) = some (true, some (some (.ref 403))) := fun w => by kernel_rfl
theorem left1:∀ w,(openT rwL.row.prog w 6034).map (fun x=>(openSeen (viewOf rwL.row.prog) [] (importedModules rwL.row.prog.main.body) (xtOf rwL.row.prog rwL.row.toRowW) true x.2.abs).1) = some (openGood (viewOf rwL.row.prog) []).1:=fun w=>by kernel_rfl
theorem left5:∀ w,(openT rwL.row.prog w 6034).map (fun x=>(openSeen (viewOf rwL.row.prog) [] (importedModules rwL.row.prog.main.body) (xtOf rwL.row.prog rwL.row.toRowW) true x.2.abs).2) = some (openGood (viewOf rwL.row.prog) []).2:=fun w=>by kernel_rfl
theorem left2:∀ w,(openT rwL.row.prog w 6034).map (fun x=>ggOk law (fragT ads x.2)) = some true:=fun w=>by kernel_rfl
theorem left3:∀ w,(openT rwL.row.prog w 6034).map (fun x=>(law.fnL.take 40).map (compFn (law.cx (fragT ads x.2)))) = some ((law.fns.take 40).map some):=fun w=>by kernel_rfl
theorem left4:∀ w,(openT rwL.row.prog w 6034).map (fun x=>(law.fnL.drop 40).map (compFn (law.cx (fragT ads x.2)))) = some ((law.fns.drop 40).map some):=fun w=>by kernel_rfl
theorem left7:∀ w,(openT rwL.row.prog w 6034).map (fun x=>obs6 law 403 six (fragT ads x.2)) = some (val6 six):=fun w=>by kernel_rfl
theorem dfn : (defOf (viewOf rwL.row.prog) rwL.row.name).map (fun x => (x.1.name, some (x.1.params, x.1.body, x.1.scope), kwWritten? x.1.params.kwonlyargs x.1.params.kw_defaults, x.2)) = some (("law" : Str), rwL.row.prog.theDef rwL.row.name, some [], []) := by kernel_rfl
theorem okO:(chainsOk (viewOf rwL.row.prog) && opensWell rwL.row.prog && (frees rwL.row.toRowW && rwL.row.within.isEmpty)) = true:=by kernel_rfl
theorem imps:importsNone (viewOf rwL.row.prog) = true:=by kernel_rfl
theorem recL : ((recsOf (viewOf rwL.row.prog)).find? (fun e => e.name == ("law" : Str))).isSome = true := by kernel_rfl
end Mine.L06
end
noncomputable section
namespace Mine
section
variable (g:Genv) (C N:Oracle)
theorem wE_none  (loc:Locs) (h:Hp) (Q:V → Hp → Prop) (X:Nat → Hp → Prop):wpE g C N loc (.none ) h Q X = (Q .none h):=rfl
theorem wE_bool (b:Bool) (loc:Locs) (h:Hp) (Q:V → Hp → Prop) (X:Nat → Hp → Prop):wpE g C N loc (.bool b) h Q X = (Q (.bool b) h):=rfl
theorem wE_int (i:Int) (loc:Locs) (h:Hp) (Q:V → Hp → Prop) (X:Nat → Hp → Prop):wpE g C N loc (.int i) h Q X = (Q (.int i) h):=rfl
theorem wE_str (w:Nat) (loc:Locs) (h:Hp) (Q:V → Hp → Prop) (X:Nat → Hp → Prop):wpE g C N loc (.str w) h Q X = (Q (.str w) h):=rfl
theorem wE_loc (i:Nat) (loc:Locs) (h:Hp) (Q:V → Hp → Prop) (X:Nat → Hp → Prop):wpE g C N loc (.loc i) h Q X = (onSome (getL loc i) fun v=>Q v h):=rfl
theorem wE_bin (op:B2) (a b:E) (loc:Locs) (h:Hp) (Q:V → Hp → Prop) (X:Nat → Hp → Prop):wpE g C N loc (.bin op a b) h Q X = (wpE g C N loc a h (fun va h1=>wpE g C N loc b h1 (fun vb h2=>onSome (binop op va vb h2) fun p=>Q p.1 p.2) X) X):=rfl
theorem wE_not_ (a:E) (loc:Locs) (h:Hp) (Q:V → Hp → Prop) (X:Nat → Hp → Prop):wpE g C N loc (.not_ a) h Q X = (wpE g C N loc a h (fun v h1=>onSome (isB v) fun b=>Q (.bool (!b)) h1) X):=rfl
theorem wE_cmp (op:C2) (a b:E) (loc:Locs) (h:Hp) (Q:V → Hp → Prop) (X:Nat → Hp → Prop):wpE g C N loc (.cmp op a b) h Q X = (wpE g C N loc a h (fun va h1=>wpE g C N loc b h1 (fun vb h2=>onSome (cmpop op va vb h2) fun r=>Q (.bool r) h2) X) X):=rfl
theorem wE_cmp2 (o1 o2:C2) (a b c:E) (loc:Locs) (h:Hp) (Q:V → Hp → Prop) (X:Nat → Hp → Prop):wpE g C N loc (.cmp2 o1 o2 a b c) h Q X = (wpE g C N loc a h (fun va h1=>wpE g C N loc b h1 (fun vb h2=>onSome (cmpop o1 va vb h2) fun r=>
      match r with
      | false=>Q (.bool false) h2
      | true=>wpE g C N loc c h2 (fun vc h3=>onSome (cmpop o2 vb vc h3) fun r2=>Q (.bool r2) h3) X) X) X):=rfl
theorem wE_and_ (a b:E) (loc:Locs) (h:Hp) (Q:V → Hp → Prop) (X:Nat → Hp → Prop):wpE g C N loc (.and_ a b) h Q X = (wpE g C N loc a h (fun v h1=>onSome (isB v) fun r=>match r with | true=>wpE g C N loc b h1 Q X | false=>Q (.bool false) h1) X):=rfl
theorem wE_or_ (a b:E) (loc:Locs) (h:Hp) (Q:V → Hp → Prop) (X:Nat → Hp → Prop):wpE g C N loc (.or_ a b) h Q X = (wpE g C N loc a h (fun v h1=>onSome (isB v) fun r=>match r with | true=>Q (.bool true) h1 | false=>wpE g C N loc b h1 Q X) X):=rfl
theorem wE_tup (es:List E) (loc:Locs) (h:Hp) (Q:V → Hp → Prop) (X:Nat → Hp → Prop):wpE g C N loc (.tup es) h Q X = (wpEs g C N loc es h (fun vs h1=>Q (.tup vs) h1) X):=rfl
theorem wE_lst (es:List E) (loc:Locs) (h:Hp) (Q:V → Hp → Prop) (X:Nat → Hp → Prop):wpE g C N loc (.lst es) h Q X = (wpEs g C N loc es h (fun vs h1=>Q (.ref h1.length) (h1 ++ [.list vs])) X):=rfl
theorem wE_idx (a i:E) (loc:Locs) (h:Hp) (Q:V → Hp → Prop) (X:Nat → Hp → Prop):wpE g C N loc (.idx a i) h Q X = (wpE g C N loc a h (fun va h1=>wpE g C N loc i h1 (fun vi h2=>onSome (idxop va vi h2) fun v=>Q v h2) X) X):=rfl
theorem wE_slc (a lo hi:E) (loc:Locs) (h:Hp) (Q:V → Hp → Prop) (X:Nat → Hp → Prop):wpE g C N loc (.slc a lo hi) h Q X = (wpE g C N loc a h (fun va h1=>wpE g C N loc lo h1 (fun vl h2=>wpE g C N loc hi h2 (fun vh h3=>onSome (slcop va vl vh h3) fun p=>Q p.1 p.2) X) X) X):=rfl
theorem wE_attr (a:E) (f:Nat) (loc:Locs) (h:Hp) (Q:V → Hp → Prop) (X:Nat → Hp → Prop):wpE g C N loc (.attr a f) h Q X = (wpE g C N loc a h (fun va h1=>match va with
      | .ref x=>match h1[x]? with
        | some (.inst c fs)=>g.at_ c f = true ∧ onSome (getK fs f) fun v=>Q v h1
        | _=>False
      | _=>False) X):=rfl
theorem wE_call (f:Nat) (es:List E) (loc:Locs) (h:Hp) (Q:V → Hp → Prop) (X:Nat → Hp → Prop):wpE g C N loc (.call f es) h Q X = (wpEs g C N loc es h (fun vs h1=>C f vs h1 Q X) X):=rfl
theorem wE_new (c:Nat) (es:List E) (loc:Locs) (h:Hp) (Q:V → Hp → Prop) (X:Nat → Hp → Prop):wpE g C N loc (.new c es) h Q X = (wpEs g C N loc es h (fun vs h1=>onSome (g.init c) fun f=>N f (.ref h1.length :: vs) (h1 ++ [.inst c []]) (fun v h2=>v = .none ∧ Q (.ref h1.length) h2) X) X):=rfl
theorem wE_meth (a:E) (m:Nat) (es:List E) (loc:Locs) (h:Hp) (Q:V → Hp → Prop) (X:Nat → Hp → Prop):wpE g C N loc (.meth a m es) h Q X = (wpE g C N loc a h (fun va h1=>match va with
      | .ref x=>match h1[x]? with
        | some (.inst c _)=>onSome (g.meth c m) fun f=>wpEs g C N loc es h1 (fun vs h2=>C f (.ref x :: vs) h2 Q X) X
        | some (.list xs)=>match es.isEmpty with
          | true=>m = mPop ∧ onSome xs.getLast? fun v=>Q v (h1.set x (.list xs.dropLast))
          | false=>m = mAppend ∧ wpEs g C N loc es h1 (fun vs h2=>match vs with
            | [v]=>match h2[x]? with
              | some (.list ys)=>ys.length < lim ∧ Q .none (h2.set x (.list (ys ++ [v])))
              | _=>False
            | _=>False) X
        | _=>False
      | _=>False) X):=rfl
theorem wE_bi (b:Bi) (es:List E) (loc:Locs) (h:Hp) (Q:V → Hp → Prop) (X:Nat → Hp → Prop):wpE g C N loc (.bi b es) h Q X = (wpEs g C N loc es h (fun vs h1=>onSome (biop b vs h1) fun p=>Q p.1 p.2) X):=rfl
theorem wE_isi (a:E) (t:Ty) (loc:Locs) (h:Hp) (Q:V → Hp → Prop) (X:Nat → Hp → Prop):wpE g C N loc (.isi a t) h Q X = (wpE g C N loc a h (fun v h1=>onSome (isiop v t h1) fun b=>Q (.bool b) h1) X):=rfl
theorem wE_comp (n:Nat) (cap:List (Nat × Nat)) (t:List Nat) (k:ItK) (src:E) (conds:List E) (elt:E) (loc:Locs) (h:Hp) (Q:V → Hp → Prop) (X:Nat → Hp → Prop):wpE g C N loc (.comp n cap t k src conds elt) h Q X = (wpE g C N loc src h (fun v h1=>onSome (itop k v h1) fun p=>onSome (capL cap loc (List.replicate n none)) fun l0=>
      compWp p.2 (fun x l h2 K=>onSome (bindT t x l) fun l1=>wpC g C N l1 conds h2 (fun b h3=>match b with
        | true=>wpE g C N l1 elt h3 (fun y h4=>K l1 [y] h4) X
        | false=>K l1 [] h3) X) p.1 l0 [] h1 (fun ys h5=>Q (.ref h5.length) (h5 ++ [.list ys]))) X
):=rfl
theorem wEs_nil (loc:Locs) (h:Hp) (Q:List V → Hp → Prop) (X:Nat → Hp → Prop):wpEs g C N loc [] h Q X = Q [] h:=rfl
theorem wEs_cons (e:E) (es:List E) (loc:Locs) (h:Hp) (Q:List V → Hp → Prop) (X:Nat → Hp → Prop):wpEs g C N loc (e :: es) h Q X = wpE g C N loc e h (fun v h1=>wpEs g C N loc es h1 (fun vs h2=>Q (v :: vs) h2) X) X:=rfl
theorem wC_cons (e:E) (es:List E) (loc:Locs) (h:Hp) (Q:Bool → Hp → Prop) (X:Nat → Hp → Prop):wpC g C N loc (e :: es) h Q X = wpE g C N loc e h (fun v h1=>onSome (isB v) fun r=>match r with | true=>wpC g C N loc es h1 Q X | false=>Q false h1) X:=rfl
theorem wT_loc (i:Nat) (σ:St) (v:V) (KN:St → Prop) (X:Nat → Hp → Prop):wpTg g C N σ v KN X (.loc i) = (i < σ.loc.length ∧ KN ⟨σ.loc.set i (some v),σ.hp⟩):=rfl
theorem wT_attr (a:E) (f:Nat) (σ:St) (v:V) (KN:St → Prop) (X:Nat → Hp → Prop):wpTg g C N σ v KN X (.attr a f) = (wpE g C N σ.loc a σ.hp (fun va h=>match va with
      | .ref x=>match h[x]? with
        | some (.inst c fs)=>g.at_ c f = true ∧ fs.length < 400 ∧ KN ⟨σ.loc,h.set x (.inst c (putK fs f v))⟩
        | _=>False
      | _=>False) X):=rfl
theorem wT_idx (a i:E) (σ:St) (v:V) (KN:St → Prop) (X:Nat → Hp → Prop):wpTg g C N σ v KN X (.idx a i) = (wpE g C N σ.loc a σ.hp (fun va h=>wpE g C N σ.loc i h (fun vi h2=>onSome va.asRef fun x=>onSome ((h2[x]?).bind fun o=>setO o vi v) fun o'=>KN ⟨σ.loc,h2.set x o'⟩) X) X):=rfl
theorem wT_unp (is:List Nat) (σ:St) (v:V) (KN:St → Prop) (X:Nat → Hp → Prop):wpTg g C N σ v KN X (.unp is) = (match v with
      | .tup vs=>onSome (bindAll is vs σ.loc) fun l=>KN ⟨l,σ.hp⟩
      | _=>False
):=rfl
theorem wS_seq (a b:S) (σ:St) (KN:St → Prop) (KR:V → Hp → Prop) (X:Nat → Hp → Prop):wpS g C N (.seq a b) σ KN KR X = (wpS g C N a σ (fun σ'=>wpS g C N b σ' KN KR X) KR X):=rfl
theorem wS_expr (e:E) (σ:St) (KN:St → Prop) (KR:V → Hp → Prop) (X:Nat → Hp → Prop):wpS g C N (.expr e) σ KN KR X = (wpE g C N σ.loc e σ.hp (fun zz h=>KN ⟨σ.loc,h⟩) X):=rfl
theorem wS_asg (t:Tg) (e:E) (σ:St) (KN:St → Prop) (KR:V → Hp → Prop) (X:Nat → Hp → Prop):wpS g C N (.asg t e) σ KN KR X = (wpE g C N σ.loc e σ.hp (fun v h=>wpTg g C N ⟨σ.loc,h⟩ v KN X t) X):=rfl
theorem wS_if_ (c:E) (a b:S) (σ:St) (KN:St → Prop) (KR:V → Hp → Prop) (X:Nat → Hp → Prop):wpS g C N (.if_ c a b) σ KN KR X = (wpE g C N σ.loc c σ.hp (fun v h=>onSome (isB v) fun r=>match r with
      | true=>wpS g C N a ⟨σ.loc,h⟩ KN KR X
      | false=>wpS g C N b ⟨σ.loc,h⟩ KN KR X) X):=rfl
theorem wS_while_ (c:E) (b:S) (σ:St) (KN:St → Prop) (KR:V → Hp → Prop) (X:Nat → Hp → Prop):wpS g C N (.while_ c b) σ KN KR X = (∀ P:St → Prop,(∀ σ,wpE g C N σ.loc c σ.hp (fun v h=>onSome (isB v) fun r=>match r with
      | true=>wpS g C N b ⟨σ.loc,h⟩ P KR X
      | false=>KN ⟨σ.loc,h⟩) X → P σ) → P σ):=rfl
theorem wS_for_ (t:List Nat) (k:ItK) (src:E) (b:S) (σ:St) (KN:St → Prop) (KR:V → Hp → Prop) (X:Nat → Hp → Prop):wpS g C N (.for_ t k src b) σ KN KR X = (wpE g C N σ.loc src σ.hp (fun v h=>onSome (itop k v h) fun p=>
      forWp p.2 (fun x σ K=>onSome (bindT t x σ.loc) fun l=>wpS g C N b ⟨l,σ.hp⟩ K KR X) p.1 ⟨σ.loc,h⟩ KN) X):=rfl
theorem wS_ret (e:E) (σ:St) (KN:St → Prop) (KR:V → Hp → Prop) (X:Nat → Hp → Prop):wpS g C N (.ret e) σ KN KR X = (wpE g C N σ.loc e σ.hp KR X):=rfl
theorem wS_raise (c:Nat) (σ:St) (KN:St → Prop) (KR:V → Hp → Prop) (X:Nat → Hp → Prop):wpS g C N (.raise c) σ KN KR X = (X c σ.hp):=rfl
end
inductive BS {α β:Type} (o:Option α) (f:α → Option β) (b:β):Prop
  | mk (a:α) (h:o = some a) (e:f a = some b):BS o f b
inductive MS {α β:Type} (o:Option α) (f:α → β) (b:β):Prop
  | mk (a:α) (h:o = some a) (e:f a = b):MS o f b
theorem of_P {G:Prop} (k:∀ P:Prop,(G → P) → P):G:=k G id
theorem bind_some {α β:Type} {o:Option α} {f:α → Option β} {b:β} (h:o.bind f = some b):BS o f b:=(Option.bind_eq_some_iff.mp h).elim fun a z=>⟨a,z.1,z.2⟩
theorem map_some' {α β:Type} {o:Option α} {f:α → β} {b:β} (h:o.map f = some b):MS o f b:=(Option.map_eq_some_iff.mp h).elim fun a z=>⟨a,z.1,z.2⟩
theorem if_some {α:Type} {p:Prop} [Decidable p] {a:Option α} {b:α} (h:(if p then a else none) = some b):p ∧ a = some b:=by
  by_cases q:p
  · rw [if_pos q] at h; exact ⟨q,h⟩
  · rw [if_neg q] at h; cases h
theorem asInt_some {v:V} {i:Int} (h:v.asInt = some i):v = .int i:=by cases v <;> cases h; rfl
theorem asStr_some {v:V} {i:Nat} (h:v.asStr = some i):v = .str i:=by cases v <;> cases h; rfl
theorem asTup_some {v:V} {i:List V} (h:v.asTup = some i):v = .tup i:=by cases v <;> cases h; rfl
theorem asRef_some {v:V} {i:Nat} (h:v.asRef = some i):v = .ref i:=by cases v <;> cases h; rfl
theorem asBool_some {v:V} {i:Bool} (h:v.asBool = some i):v = .bool i:=by cases v <;> cases h; rfl
theorem asL_some {o:O} {xs:List V} (h:o.asL = some xs):o = .list xs:=by cases o <;> cases h; rfl
theorem isNil_true {v:V} (h:isNil v = true):v = .none:=by cases v <;> cases h; rfl
theorem arg1_some {vs:List V} {v:V} (h:arg1 vs = some v):vs = [v]:=by
  cases vs with
  | nil=>cases h
  | cons a r=>cases r with
    | nil=>cases h; rfl
    | cons _ _=>cases h
theorem arg2_some {vs:List V} {v:V × V} (h:arg2 vs = some v):vs = [v.1,v.2]:=by
  cases vs with
  | nil=>cases h
  | cons a r=>cases r with
    | nil=>cases h
    | cons b r=>cases r with
      | nil=>cases h; rfl
      | cons _ _=>cases h
theorem lstOf_some {v:V} {h:Hp} {xs:List V} (e:lstOf v h = some xs):∃ a,v = .ref a ∧ h[a]? = some (.list xs):=by
  obtain ⟨a,e1,e⟩:=bind_some e
  obtain ⟨o,e2,e3⟩:=bind_some e
  exact ⟨a,asRef_some e1,by rw [e2,asL_some e3]⟩
theorem itmOf_some {v:V} {h:Hp} {xs:List V} (e:itmOf v h = some xs):∃ a o,v = .ref a ∧ h[a]? = some o ∧ o.items = some xs:=by
  obtain ⟨a,e1,e⟩:=bind_some e
  obtain ⟨o,e2,e3⟩:=bind_some e
  exact ⟨a,o,asRef_some e1,e2,e3⟩
end Mine
end
noncomputable section
namespace Mine
noncomputable def noX:Nat → Hp → Prop:=fun zz zz=>False
inductive AbsS (g:Genv) (jy jd nil ck mk tl:Nat) (i:E) (tb:List (Nat × Nat)) (σ:St):Prop
  | good (pv:V) (G2 G3:Hp → Prop):getL σ.loc jy = some pv → getL σ.loc jd = some (.str nil) → (∀ Q:V → Hp → Prop,Q .none σ.hp → callWp g 595 ck [pv] σ.hp Q noX) → (∀ Q:V → Hp → Prop,(∀ v h2,G2 h2 → Q v h2) → callWp g 595 mk [pv] σ.hp Q noX) →
      (∀ h2,G2 h2 → ∀ Q:V → Hp → Prop,(∀ v h3,G3 h3 → Q v h3) → callWp g 595 tl [pv,.int 0,.int 3] h2 Q noX) → (∀ h3,G3 h3 → wpE g (callWp g 597) (callWp g 596) σ.loc i h3 (fun v zz=>v = .bool true) noX) → AbsS g jy jd nil ck mk tl i tb σ
  | bad (pv:V) (dw wc:Nat):getL σ.loc jy = some pv → getL σ.loc jd = some (.str dw) → (wc,dw) ∈ tb → (∀ X:Nat → Hp → Prop,X wc σ.hp → callWp g 595 ck [pv] σ.hp (fun zz zz=>False) X) → (∀ X:Nat → Hp → Prop,X wc σ.hp → callWp g 594 ck [pv] σ.hp (fun zz zz=>False) X) →
      wpE g (callWp g 597) (callWp g 596) σ.loc i σ.hp (fun v zz=>v = .bool true) noX → AbsS g jy jd nil ck mk tl i tb σ
end Mine
end
noncomputable section
namespace Mine
open PySem PySem.W PyProof.Rows
noncomputable abbrev AM:=List (Addr × Addr)
noncomputable def AM.muts (am:AM):List Addr:=am.map (·.2)
noncomputable def AM.Le (am am':AM):Prop:=∀ (i:Nat) (p:Addr × Addr),am[i]? = some p → am'[i]? = some p
mutual
inductive RV (ws:List Str) (am:AM) (h:Heap):V → Value → Prop
  | none:RV ws am h .none .none
  | bool (b:Bool):RV ws am h (.bool b) (.bool b)
  | int (i:Int) (t:Tok):RV ws am h (.int i) (.int i t)
  | str {w:Nat} {s:Str} (t:Tok):ws[w]? = some s → RV ws am h (.str w) (.str s t)
  | tup {xs:List V} {a:Addr} {vs:List Value}:IsTup h a vs.toArray → RVs ws am h xs vs → xs.length ≤ lim → RV ws am h (.tup xs) (.ref a)
  | ref {a:Nat} {p:Addr × Addr}:am[a]? = some p → RV ws am h (.ref a) (.ref p.1)
inductive RVs (ws:List Str) (am:AM) (h:Heap):List V → List Value → Prop
  | nil:RVs ws am h [] []
  | cons {x:V} {v:Value} {xs:List V} {vs:List Value}:RV ws am h x v → RVs ws am h xs vs → RVs ws am h (x :: xs) (v :: vs)
end
noncomputable def TupKept (h h':Heap):Prop:=∀ a items,IsTup h a items → IsTup h' a items
theorem TupKept.refl (h:Heap):TupKept h h:=fun zz zz x=>x
theorem TupKept.trans {h1 h2 h3:Heap} (x:TupKept h1 h2) (y:TupKept h2 h3):TupKept h1 h3:=fun a i t=>y a i (x a i t)
theorem RV.mono {ws:List Str} {am am':AM} {h h':Heap} (ht:TupKept h h') (hp:AM.Le am am') {v:V} {x:Value} (r:RV ws am h v x):RV ws am' h' v x:=
  RV.rec (motive_1:=fun v x zz=>RV ws am' h' v x) (motive_2:=fun v x zz=>RVs ws am' h' v x) .none (fun b=>.bool b) (fun i t=>.int i t) (fun t e=>.str t e) (fun i zz l ih=>.tup (ht _ _ i) ih l) (fun e=>.ref (hp _ _ e)) .nil (fun zz zz ia ir=>.cons ia ir) r
theorem RVs.mono {ws:List Str} {am am':AM} {h h':Heap} (ht:TupKept h h') (hp:AM.Le am am') {v:List V} {x:List Value} (r:RVs ws am h v x):RVs ws am' h' v x:=by
  induction v generalizing x with
  | nil=>cases r; exact .nil
  | cons y v ih=>cases r with
    | cons a r=>exact .cons (a.mono ht hp) (ih r)
theorem RVs.length {ws:List Str} {am:AM} {h:Heap} {xs:List V} {vs:List Value} (r:RVs ws am h xs vs):xs.length = vs.length:=by
  induction xs generalizing vs with
  | nil=>cases r; rfl
  | cons y xs ih=>cases r with
    | cons a r=>exact congrArg Nat.succ (ih r)
theorem RVs.append {ws:List Str} {am:AM} {h:Heap} {xs ys:List V} {vs us:List Value} (r:RVs ws am h xs vs) (q:RVs ws am h ys us):RVs ws am h (xs ++ ys) (vs ++ us):=by
  induction xs generalizing vs with
  | nil=>cases r; exact q
  | cons y xs ih=>cases r with
    | cons a r=>exact .cons a (ih r)
theorem RVs.get {ws:List Str} {am:AM} {h:Heap} {xs:List V} {vs:List Value} (r:RVs ws am h xs vs) {i:Nat} {x:V} (e:xs[i]? = some x):∃ v,vs[i]? = some v ∧ RV ws am h x v:=by
  induction xs generalizing vs i with
  | nil=>cases r; cases e
  | cons y xs ih=>cases r with
    | cons a r=>cases i with
      | zero=>cases e; exact ⟨_,rfl,a⟩
      | succ i=>exact ih r e
theorem RVs.set {ws:List Str} {am:AM} {h:Heap} {x:V} {v:Value} (q:RV ws am h x v) {xs:List V} {vs:List Value} (r:RVs ws am h xs vs) (i:Nat):RVs ws am h (xs.set i x) (vs.set i v):=by
  induction xs generalizing vs i with
  | nil=>cases r; exact .nil
  | cons y xs ih=>cases r with
    | cons a r=>cases i with
      | zero=>exact .cons q r
      | succ i=>exact .cons a (ih r i)
theorem RVs.take {ws:List Str} {am:AM} {h:Heap} {xs:List V} {vs:List Value} (r:RVs ws am h xs vs) (n:Nat):RVs ws am h (xs.take n) (vs.take n):=by
  induction xs generalizing vs n with
  | nil=>cases r; cases n <;> exact .nil
  | cons y xs ih=>cases r with
    | cons a r=>cases n with
      | zero=>exact .nil
      | succ n=>exact .cons a (ih r n)
theorem RVs.drop {ws:List Str} {am:AM} {h:Heap} {xs:List V} {vs:List Value} (r:RVs ws am h xs vs) (n:Nat):RVs ws am h (xs.drop n) (vs.drop n):=by
  induction xs generalizing vs n with
  | nil=>cases r; cases n <;> exact .nil
  | cons y xs ih=>cases r with
    | cons a r=>cases n with
      | zero=>exact .cons a r
      | succ n=>exact ih r n
structure Glb where
  prog:Program
  w:World
  K:Frag
  base:Heap
  ws:List Str
  cls:Nat → Option Addr
  fnA:Nat → Option Addr
  at_:Nat → Nat → Bool
  gens:Array GenState
  os:OsState
inductive RE (G:Glb) (am:AM) (h:Heap):List (Nat × V) → List DictEntry → Prop
  | nil:RE G am h [] []
  | cons {k:Nat} {s:Str} {t:Tok} {v:V} {x:Value} {fs:List (Nat × V)} {es:List DictEntry}:G.ws[k]? = some s → RV G.ws am h v x → RE G am h fs es → RE G am h ((k,v) :: fs) (⟨PyData.keyHash G.w.params s,.str s t,x⟩ :: es)
theorem RE.mono {G:Glb} {am am':AM} {h h':Heap} (ht:TupKept h h') (hp:AM.Le am am') {fs:List (Nat × V)} {es:List DictEntry} (x:RE G am h fs es):RE G am' h' fs es:=by
  induction x with
  | nil=>exact .nil
  | cons a b r ih=>exact .cons a (b.mono ht hp) ih
noncomputable abbrev listObj (vs : List Value) (n : Nat) : Obj := { cls := .type "list", data := .seq vs.toArray n }
inductive RO (G:Glb) (am:AM) (h:Heap):O → Addr × Addr → Prop
  | list {xs:List V} {x:Addr} {vs:List Value} {n:Nat}:h.get? x = some (listObj vs n) → RVs G.ws am h xs vs → xs.length ≤ lim → G.base.get? x = none → RO G am h (.list xs) (x,x)
  | flist {xs:List V} {x:Addr} {vs:List Value}:G.base.IsList x vs.toArray → RVs G.ws am h xs vs → xs.length ≤ lim → RO G am h (.flist xs) (x,x)
  | inst {c:Nat} {C x dx:Addr} {fs:List (Nat × V)} {es:List DictEntry} {n:Nat}:G.cls c = some C → h.get? x = some (instObj C dx) → h.get? dx = some (dictOf es n) → RE G am h fs es → fs.length ≤ 500 →
      G.base.get? x = none → G.base.get? dx = none → (∀ p ∈ fs,G.at_ c p.1 = true) → RO G am h (.inst c fs) (x,dx)
structure HR (G:Glb) (am:AM) (h:Heap) (hp:Hp):Prop where
  len:am.length = hp.length
  nodup:am.muts.Nodup
  objs:∀ (i:Nat) (o:O) (p:Addr × Addr),hp[i]? = some o → am[i]? = some p → RO G am h o p
  base:∀ b o,G.base.get? b = some o → h.get? b = some o
structure Aft (own:List Addr) (h:Heap) (am:AM) (h':Heap) (am':AM):Prop where
  keep:∀ b o,h.get? b = some o → b ∉ own → b ∉ am.muts → h'.get? b = some o
  tup:TupKept h h'
  ext:∃ l,am' = am ++ l ∧ ∀ p ∈ l,h.get? p.1 = none ∧ h.get? p.2 = none
  live:∀ b,(h.get? b).isSome = true → (h'.get? b).isSome = true
theorem Aft.refl (own:List Addr) (h:Heap) (am:AM):Aft own h am h am:=⟨fun zz zz e zz zz=>e,.refl h,⟨[],by simp,by simp⟩,fun zz e=>e⟩
theorem Aft.map {own:List Addr} {h h':Heap} {am am':AM} (x:Aft own h am h' am'):AM.Le am am':=by
  obtain ⟨l,rfl,_⟩:=x.ext
  intro i p e
  rw [List.getElem?_append_left (by obtain ⟨q,_⟩:=List.getElem?_eq_some_iff.mp e; exact q)]; exact e
theorem Aft.rv {own:List Addr} {h h':Heap} {am am':AM} {ws:List Str} {v:V} {x:Value} (a:Aft own h am h' am') (r:RV ws am h v x):RV ws am' h' v x:=r.mono a.tup a.map
theorem Aft.rvs {own:List Addr} {h h':Heap} {am am':AM} {ws:List Str} {v:List V} {x:List Value} (a:Aft own h am h' am') (r:RVs ws am h v x):RVs ws am' h' v x:=r.mono a.tup a.map
theorem Aft.trans {own:List Addr} {h1 h2 h3:Heap} {am1 am2 am3:AM} (x:Aft own h1 am1 h2 am2) (y:Aft own h2 am2 h3 am3):Aft own h1 am1 h3 am3:=by
  obtain ⟨l1,rfl,f1⟩:=x.ext
  obtain ⟨l2,rfl,f2⟩:=y.ext
  refine ⟨fun b o e n1 n2=>y.keep b o (x.keep b o e n1 n2) n1 ?_,x.tup.trans y.tup,⟨l1 ++ l2,by simp,?_⟩,fun b e=>y.live b (x.live b e)⟩
  · intro hm'
    simp only [AM.muts,List.map_append,List.mem_append] at hm'
    rcases hm' with q | q
    · exact n2 q
    · obtain ⟨p,hp,rfl⟩:=List.mem_map.mp q
      rw [(f1 p hp).2] at e; cases e
  · intro p hp
    rcases List.mem_append.mp hp with q | q
    · exact f1 p q
    · have z:=f2 p q
      refine ⟨?_,?_⟩
      · cases c:h1.get? p.1 with
        | none=>rfl
        | some o=>have:=x.live p.1 (by rw [c]; rfl); rw [z.1] at this; cases this
      · cases c:h1.get? p.2 with
        | none=>rfl
        | some o=>have:=x.live p.2 (by rw [c]; rfl); rw [z.2] at this; cases this
end Mine
end
noncomputable section
namespace Mine
open PySem PySem.W PyProof.Rows
structure EnvOk (env:Env) (names:List (Str × NameKind)):Prop where
  kind:env.scope.kind = .function
  glob:env.globals = mainGlobals
  bi:env.builtins = builtinsNs
  kinds : ∀ (i : Nat) (x : Str) (k : NameKind), names[i]? = some (x, k) → env.kindOf x = some k ∧ (k = .local ∨ k = .cell ∨ k = .free) ∧ (x == ("__debug__" : Str)) = false ∧ (x == ("__classdict__" : Str)) = false
  nodup:(names.map (·.1)).Nodup
noncomputable def BindAt (env:Env) (h:Heap) (m:Str → Option Value) (x:Str) (k:NameKind) (v:Value):Prop:=match k with
  | .local=>m x = some v
  | .cell=>∃ c,env.cells.lookup x = some c ∧ h.IsCell c (some v)
  | .free=>∃ c,env.cells.lookup x = some c ∧ h.IsCell c (some v)
  | _=>False
noncomputable def LocR (G:Glb) (env:Env) (names:List (Str × NameKind)) (am:AM) (h:Heap) (m:Str → Option Value) (loc:Locs):Prop:=
  ∀ (i:Nat) (v:V),Mine.getL loc i = some v → ∃ x k val,names[i]? = some (x,k) ∧ RV G.ws am h v val ∧ BindAt env h m x k val
noncomputable def ownA (env:Env):List Addr:=env.locals :: env.cells.map (·.2)
structure Same (G:Glb) (s:Shared):Prop where
  gens:s.gens = G.gens
  os:s.os = G.os
structure Rel (G:Glb) (env:Env) (names:List (Str × NameKind)) (s:Shared) (am:AM) (loc:Locs) (hp:Hp):Prop where
  hr:HR G am s.heap hp
  fr:∃ m,Fr G.base env.locals s.heap m ∧ LocR G env names am s.heap m loc
  own:∀ b ∈ ownA env,b ∉ am.muts ∧ G.base.get? b = none
  cells:∀ x,(x,NameKind.cell) ∈ names → ∃ c v,env.cells.lookup x = some c ∧ s.heap.IsCell c v
  apart:env.cells.Pairwise fun x y=>x.2 ≠ y.2
  apartL:∀ c ∈ env.cells,c.2 ≠ env.locals ∧ (s.heap.get? c.2).isSome = true
  len:loc.length = names.length
  same:Same G s
structure RoomC (X:Nat → Hp → Prop) (A:Around) (r:Nat):Prop where
  depth:A.depth + r + 101 ≤ recursionLimit
  units:A.units + 10 * r + 300 ≤ cLine
  handled:A.handled = none
  some_:∃ l,A.frames = some l
  noX:∀ c h,¬ X c h
structure Room (X:Nat → Hp → Prop) (A:Around) (r:Nat):Prop where
  depth:A.depth + r + 101 ≤ recursionLimit
  units:A.units + 10 * r + 300 ≤ cLine
  handled:A.handled = none
  frames:∃ (env:Env) (l:List Env),A.frames = some (env :: l) ∧ env.scope.isGenerator = false ∧ env.scope.isCoroutine = false ∧ env.builtins = builtinsNs ∧ env.globals = mainGlobals
  noX:∀ c h,¬ X c h
theorem Room.c {X:Nat → Hp → Prop} {A:Around} {r:Nat} (x:Room X A r):RoomC X A r:=⟨x.depth,x.units,x.handled,by obtain ⟨e,l,h,_⟩:=x.frames; exact ⟨_,h⟩,x.noX⟩
inductive EvP (G:Glb) (s:Shared) (am:AM) (Q:V → Hp → Prop) (val:Value) (s':Shared):Prop
  | mk (v:V) (hp':Hp) (am':AM):Q v hp' → RV G.ws am' s'.heap v val → HR G am' s'.heap hp' → Aft [] s.heap am s'.heap am' → Same G s' → EvP G s am Q val s'
inductive EvPs (G:Glb) (s:Shared) (am:AM) (Q:List V → Hp → Prop) (vals:List Value) (s':Shared):Prop
  | mk (vs:List V) (hp':Hp) (am':AM):Q vs hp' → RVs G.ws am' s'.heap vs vals → HR G am' s'.heap hp' → Aft [] s.heap am s'.heap am' → Same G s' → EvPs G s am Q vals s'
inductive EvPb (G:Glb) (s:Shared) (am:AM) (Q:Bool → Hp → Prop) (b:Bool) (s':Shared):Prop
  | mk (hp':Hp) (am':AM):Q b hp' → HR G am' s'.heap hp' → Aft [] s.heap am s'.heap am' → Same G s' → EvPb G s am Q b s'
noncomputable def XN (_:Value) (_:Shared):Prop:=False
theorem XN.back {P:Prop} (_:P) {e:Value} {s':Shared} (x:XN e s'):XN e s':=x
theorem EvP.back {G:Glb} {s s1:Shared} {am am1:AM} {Q:V → Hp → Prop} (a:Aft [] s.heap am s1.heap am1) {v:Value} {s':Shared} (x:EvP G s1 am1 Q v s'):EvP G s am Q v s':=by
  obtain ⟨c,hp',am',h1,h2,h3,h4,h5⟩:=x
  exact ⟨c,hp',am',h1,h2,h3,a.trans h4,h5⟩
theorem Aft.toks {own:List Addr} {h h':Heap} {am am':AM} (a:Aft own h am h' am'):Aft own h am h' am':=a
theorem Rel.step {G:Glb} {env:Env} {names:List (Str × NameKind)} {s s':Shared} {am am':AM} {loc:Locs} {hp hp':Hp} (R:Rel G env names s am loc hp)
    (a:Aft [] s.heap am s'.heap am') (hr:HR G am' s'.heap hp') (sm:Same G s'):Rel G env names s' am' loc hp':=by
  obtain ⟨m,F,lr⟩:=R.fr
  have kp:∀ b ∈ ownA env,∀ o,s.heap.get? b = some o → s'.heap.get? b = some o:=fun b hb o e=>a.keep b o e (by simp) (R.own b hb).1
  have cl:∀ c x v,env.cells.lookup x = some c → s.heap.IsCell c v → s'.heap.IsCell c v:=fun c x v hl ⟨o,ho,hd⟩=>
    ⟨o,kp c (by simp only [ownA,List.mem_cons,List.mem_map]; exact .inr ⟨(x,c),mem_of_lookup hl,rfl⟩) o ho,hd⟩
  refine ⟨hr,⟨m,⟨?_,hr.base,F.above⟩,?_⟩,?_,?_,R.apart,?_,R.len,sm⟩
  · obtain ⟨o,es,ep,ho,r⟩:=F.ns
    exact ⟨o,es,ep,kp env.locals (by simp [ownA]) o ho,r⟩
  · intro i v e
    obtain ⟨x,k,val,h1,h2,h3⟩:=lr i v e
    refine ⟨x,k,val,h1,a.rv h2,?_⟩
    cases k <;> simp only [BindAt] at h3 ⊢
    · exact h3
    · obtain ⟨c,h4,h5⟩:=h3; exact ⟨c,h4,cl c x _ h4 h5⟩
    · obtain ⟨c,h4,h5⟩:=h3; exact ⟨c,h4,cl c x _ h4 h5⟩
  · intro b hb
    refine ⟨?_,(R.own b hb).2⟩
    obtain ⟨l,rfl,f⟩:=a.ext
    simp only [AM.muts,List.map_append,List.mem_append,not_or]
    refine ⟨(R.own b hb).1,fun q=>?_⟩
    obtain ⟨p,hp,rfl⟩:=List.mem_map.mp q
    have z:=(f p hp).2
    have live:(s.heap.get? p.2).isSome = true:=by
      simp only [ownA,List.mem_cons,List.mem_map] at hb
      rcases hb with e | ⟨c,hc,e⟩
      · obtain ⟨o,es,ep,ho,r⟩:=F.ns; rw [e,ho]; rfl
      · rw [← e]; exact (R.apartL c hc).2
    rw [z] at live; cases live
  · intro x hx
    obtain ⟨c,v,h1,h2⟩:=R.cells x hx
    exact ⟨c,v,h1,cl c x v h1 h2⟩
  · intro c hc
    exact ⟨(R.apartL c hc).1,a.live _ (R.apartL c hc).2⟩
theorem Rel.size {G:Glb} {env:Env} {names:List (Str × NameKind)} {s:Shared} {am:AM} {loc:Locs} {hp:Hp} (R:Rel G env names s am loc hp):G.base.objs.size ≤ s.heap.objs.size:=by
  obtain ⟨m,F,_⟩:=R.fr
  obtain ⟨o,_,_,ho,_⟩:=F.ns
  exact Nat.le_of_lt (Nat.lt_of_le_of_lt F.above (Heap.lt_size ho))
section
variable (G:Glb) (g:Genv) (C N:Oracle) (env:Env) (names:List (Str × NameKind)) (r:Nat)
noncomputable def Snd (e:PySem.Expr) (i:Mine.E):Prop:=∀ (loc:Locs) (hp:Hp) (Q:V → Hp → Prop) (X:Nat → Hp → Prop) (A:Around) (s:Shared) (am:AM),
  wpE g C N loc i hp Q X → Room X A r → Rel G env names s am loc hp → wpAny (model G.prog G.w) A (eval e env) (EvP G s am Q) XN s
noncomputable def SndT (e:PySem.Expr) (i:Mine.E):Prop:=∀ (loc:Locs) (hp:Hp) (Q:Bool → Hp → Prop) (X:Nat → Hp → Prop) (A:Around) (s:Shared) (am:AM) (whole:Sem Value),
  wpE g C N loc i hp (fun v h=>onSome (isB v) fun b=>Q b h) X → Room X A r → Rel G env names s am loc hp → whole = eval e env → wpAny (model G.prog G.w) A (isTrue e env whole) (EvPb G s am Q) XN s
end
section
variable {G:Glb} {g:Genv} {C N:Oracle} {env:Env} {names:List (Str × NameKind)} {r:Nat}
theorem HR.toks {am:AM} {h:Heap} {hp:Hp} (x:HR G am h hp):HR G am h hp:=x
theorem evp_here {s s':Shared} {am:AM} {Q:V → Hp → Prop} {v:V} {val:Value} {hp:Hp} (q:Q v hp) (rv:RV G.ws am s'.heap v val) (hr:HR G am s'.heap hp) (e:s'.heap = s.heap) (sm:Same G s'):EvP G s am Q val s':=
  ⟨v,hp,am,q,rv,hr,e ▸ Aft.refl _ _ _,sm⟩
theorem snd_none (k:Nat) (p:Pos):Snd G g C N env names r (.Constant .none k p) .none:=fun loc hp Q X A s am h zz R=>
  wpAny_Constant_none (evp_here (v:=.none) (h) .none R.hr rfl R.same)
theorem snd_bool (b:Bool) (k:Nat) (p:Pos):Snd G g C N env names r (.Constant (.bool b) k p) (.bool b):=fun loc hp Q X A s am h zz R=>
  wpAny_Constant_bool (evp_here (v:=.bool b) (h) (.bool b) R.hr rfl R.same)
theorem snd_int (i:Int) (k:Nat) (p:Pos):Snd G g C N env names r (.Constant (.int i) k p) (.int i):=fun loc hp Q X A s am h zz R=>
  wpAny_Constant_int (evp_here (v:=.int i) (h) (.int i _) R.hr rfl ⟨R.same.gens,R.same.os⟩)
theorem snd_str {x:Str} {w:Nat} (hw:G.ws[w]? = some x) (k:Nat) (p:Pos):Snd G g C N env names r (.Constant (.str x) k p) (.str w):=fun loc hp Q X A s am h zz R=>
  wpAny_Constant_str (evp_here (v:=.str w) (h) (.str _ hw) R.hr rfl ⟨R.same.gens,R.same.os⟩)
theorem snd_loc (O:EnvOk env names) {x:Str} {i:Nat} {k:NameKind} (hx:names[i]? = some (x,k)) (p:Pos):Snd G g C N env names r (.Name x p) (.loc i):=fun loc hp Q X A s am h zz R=>by
  dsimp only [wE_loc] at h
  cases hg:Mine.getL loc i with
  | none=>rw [hg] at h; exact h.elim
  | some v=>
    rw [hg,onSome_some] at h
    obtain ⟨m,F,lr⟩:=R.fr
    obtain ⟨x',k',val,h1,h2,h3⟩:=lr i v hg
    rw [hx] at h1
    obtain ⟨rfl,rfl⟩:=Prod.mk.inj (Option.some.inj h1)
    obtain ⟨o1,o2,o3,o4⟩:=O.kinds i x k hx
    refine wpAny_Name ?_ o3
    have fin:EvP G s am Q val s:=evp_here h h2 R.hr rfl R.same
    rcases o2 with rfl | rfl | rfl <;> simp only [BindAt] at h3
    · exact wpAny_loadName_local O.kind o1 F.ns h3 fin
    · obtain ⟨c,h4,h5⟩:=h3; exact wpAny_loadName_cell O.kind o1 h4 h5 fin
    · obtain ⟨c,h4,h5⟩:=h3; exact wpAny_loadName_free O.kind o1 h4 h5 fin o4
theorem ev_two {e1 e2:PySem.Expr} {i1 i2:Mine.E} (h1:Snd G g C N env names r e1 i1) (h2:Snd G g C N env names r e2 i2) {loc:Locs} {hp:Hp} {K:V → Hp → V → Hp → Prop} {X:Nat → Hp → Prop} {A:Around} {s:Shared} {am:AM}
    {T:Value → Value → Shared → Prop}
    (h:wpE g C N loc i1 hp (fun a p1=>wpE g C N loc i2 p1 (fun b p2=>K a p1 b p2) X) X) (rm:Room X A r) (R:Rel G env names s am loc hp)
    (fin:∀ a b p1 p2 va vb s2 am2,K a p1 b p2 → RV G.ws am2 s2.heap a va → RV G.ws am2 s2.heap b vb → Rel G env names s2 am2 loc p2 → Aft [] s.heap am s2.heap am2 → T va vb s2) :
    wpAny (model G.prog G.w) A (eval e1 env) (fun va s1=>wpAny (model G.prog G.w) A (eval e2 env) (fun vb s2=>T va vb s2) XN s1) XN s:=by
  refine wpAny_mono (h1 loc hp _ X A s am h rm R) (fun va s1 q=>?_) fun zz zz x=>x
  obtain ⟨a,p1,am1,q1,q2,q3,q4,q5⟩:=q
  have R1:=R.step q4 q3 q5
  refine wpAny_mono (h2 loc p1 _ X A s1 am1 q1 rm R1) (fun vb s2 z=>?_) fun zz zz x=>x
  obtain ⟨b,p2,am2,z1,z2,z3,z4,z5⟩:=z
  exact fin a b p1 p2 va vb s2 am2 z1 (z4.rv q2) z2 (R1.step z4 z3 z5) (q4.trans z4)
end
end Mine
end
noncomputable section
namespace Mine
open PySem PySem.W PyProof.Rows
theorem get_none_of_size {h:Heap}:h.get? h.objs.size = none:=by
  cases e:h.get? h.objs.size with
  | none=>rfl
  | some o=>exact absurd (Heap.lt_size e) (Nat.lt_irrefl _)
theorem get_none_of_size1 {h:Heap}:h.get? (h.objs.size + 1) = none:=by
  cases e:h.get? (h.objs.size + 1) with
  | none=>rfl
  | some o=>exact absurd (Heap.lt_size e) (Nat.not_lt.mpr (Nat.le_succ _))
section
variable {G:Glb} {am am':AM} {h h':Heap} {hp:Hp}
theorem RO.mono {o:O} {p:Addr × Addr} (x:RO G am h o p) (ht:TupKept h h') (hl:AM.Le am am') (k1:∀ ob,h.get? p.1 = some ob → h'.get? p.1 = some ob) (k2:∀ ob,h.get? p.2 = some ob → h'.get? p.2 = some ob):RO G am' h' o p:=by
  cases x with
  | list a b c d=>exact .list (k1 _ a) (b.mono ht hl) c d
  | flist a b c=>exact .flist a (b.mono ht hl) c
  | inst a b c d e f i j=>exact .inst a (k1 _ b) (k2 _ c) (d.mono ht hl) e f i j
theorem HR.live (x : HR G am h hp) {p : Addr × Addr} (hm : p ∈ am) : (∃ o, h.get? p.1 = some o ∧ o.cls ≠ .type "tuple") ∧ (∃ o, h.get? p.2 = some o ∧ o.cls ≠ .type "tuple") := by
  obtain ⟨i,hi,e⟩:=List.getElem_of_mem hm
  obtain ⟨o,ho⟩:∃ o,hp[i]? = some o:=⟨_,List.getElem?_eq_getElem (x.len ▸ hi)⟩
  have:=x.objs i o p ho (by rw [List.getElem?_eq_getElem hi,e])
  cases this with
  | list a b c d=>exact ⟨⟨_,a,by simp⟩,⟨_,a,by simp⟩⟩
  | flist a b c=>
    obtain ⟨o,ho,hc,_⟩:=a
    have:=x.base _ _ ho
    exact ⟨⟨o,this,by rw [hc]; simp⟩,⟨o,this,by rw [hc]; simp⟩⟩
  | inst a b c d e f i j=>exact ⟨⟨_,b,by simp⟩,⟨_,c,by simp⟩⟩
theorem TupKept.push (o:Obj):TupKept h (h.push o):=fun zz zz x=>x.keeps fun zz zz e=>Heap.get?_push_of_some _ e
theorem HR.keepAll (x:HR G am h hp) (k:∀ b o,h.get? b = some o → h'.get? b = some o):HR G am h' hp:=
  ⟨x.len,x.nodup,fun i o p h1 h2=>(x.objs i o p h1 h2).mono (fun zz zz t=>t.keeps k) (fun zz zz e=>e) (fun zz=>k _ _) (fun zz=>k _ _),fun b o e=>k _ _ (x.base b o e)⟩
theorem Aft.ofKeep {own:List Addr} (k:∀ b o,h.get? b = some o → h'.get? b = some o):Aft own h am h' am:=
  ⟨fun b o e zz zz=>k b o e,fun zz zz t=>t.keeps k,⟨[],by simp,by simp⟩,fun b e=>by
    cases c:h.get? b with
    | none=>rw [c] at e; cases e
    | some o=>rw [k b o c]; rfl⟩
theorem keep_push (o:Obj):∀ b o',h.get? b = some o' → (h.push o).get? b = some o':=fun zz zz e=>Heap.get?_push_of_some _ e
theorem HR.notMut (x:HR G am h hp) {a:Addr} (e:h.get? a = none):a ∉ am.muts:=fun ha=>by
  obtain ⟨q,hq,eq⟩:=List.mem_map.mp ha
  obtain ⟨-,ob,hb,-⟩:=x.live hq
  rw [eq,e] at hb; cases hb
theorem HR.plus (x:HR G am h hp) (k:∀ b o,h.get? b = some o → h'.get? b = some o) {p:Addr × Addr} {o:O} (n2:p.2 ∉ am.muts) (ro:RO G (am ++ [p]) h' o p):HR G (am ++ [p]) h' (hp ++ [o]):=by
  have le:AM.Le am (am ++ [p]):=fun i q e=>by rw [List.getElem?_append_left (by obtain ⟨z,_⟩:=List.getElem?_eq_some_iff.mp e; exact z)]; exact e
  refine ⟨by simp [x.len],?_,?_,fun b o e=>k _ _ (x.base b o e)⟩
  · simp only [AM.muts,List.map_append,List.map_cons,List.map_nil]
    refine List.nodup_append.mpr ⟨x.nodup,by simp,fun a ha b hb e=>n2 ?_⟩
    rw [← List.mem_singleton.mp hb,← e]; exact ha
  · intro i o' q h1 h2
    by_cases hi:i < am.length
    · rw [List.getElem?_append_left hi] at h2
      rw [List.getElem?_append_left (x.len ▸ hi)] at h1
      exact (x.objs i o' q h1 h2).mono (fun zz zz t=>t.keeps k) le (fun zz=>k _ _) (fun zz=>k _ _)
    · have hi':am.length ≤ i:=Nat.le_of_not_lt hi
      rw [List.getElem?_append_right hi'] at h2
      rw [List.getElem?_append_right (x.len ▸ hi'),← x.len] at h1
      cases hj:i - am.length with
      | zero=>rw [hj] at h1 h2; simp at h1 h2; subst h1 h2; exact ro
      | succ j=>rw [hj] at h1; simp at h1
theorem HR.more (x:HR G am h hp) (k:∀ b o,h.get? b = some o → h'.get? b = some o) {p:Addr × Addr} {o:O} (n2:h.get? p.2 = none) (ro:RO G (am ++ [p]) h' o p):HR G (am ++ [p]) h' (hp ++ [o]):=x.plus k (x.notMut n2) ro
theorem Aft.more {own:List Addr} (k:∀ b o,h.get? b = some o → h'.get? b = some o) {p:Addr × Addr} (n1:h.get? p.1 = none) (n2:h.get? p.2 = none):Aft own h am h' (am ++ [p]):=
  ⟨fun b o e zz zz=>k b o e,fun zz zz t=>t.keeps k,⟨[p],rfl,by intro q hq; simp only [List.mem_singleton] at hq; subst hq; exact ⟨n1,n2⟩⟩,fun b e=>by
    cases c:h.get? b with
    | none=>rw [c] at e; cases e
    | some o=>rw [k b o c]; rfl⟩
theorem am_last (p:Addr × Addr):(am ++ [p])[am.length]? = some p:=by simp
theorem HR.turn (x:HR G am h hp) {i:Nat} {p:Addr × Addr} {o o':O} (hi:hp[i]? = some o) (hp':am[i]? = some p) (sb:Heap.SameBut p.2 h h') (ht:TupKept h h') (hbase:G.base.get? p.2 = none)
    (hx:∀ q ∈ am,q.1 = p.2 → q.1 = q.2) (ro:RO G am h' o' p):HR G am h' (hp.set i o'):=by
  refine ⟨by simp [x.len],x.nodup,?_,?_⟩
  · intro j oj q h1 h2
    by_cases hj:i = j
    · subst hj
      rw [hp'] at h2; cases h2
      rw [List.getElem?_set_self (by obtain ⟨z,_⟩:=List.getElem?_eq_some_iff.mp hi; exact z)] at h1
      cases h1; exact ro
    · rw [List.getElem?_set_ne hj] at h1
      have ne2:q.2 ≠ p.2:=fun e=>hj (by
        have a1:am.muts[i]? = some p.2:=by simp [AM.muts,hp']
        have a2:am.muts[j]? = some p.2:=by simp [AM.muts,h2,e]
        exact (List.getElem?_inj (by obtain ⟨z,_⟩:=List.getElem?_eq_some_iff.mp a1; exact z) x.nodup).mp (a1.trans a2.symm))
      have ne1:q.1 ≠ p.2:=fun e=>ne2 (by rw [← hx q (List.mem_of_getElem? h2) e,e])
      exact (x.objs j oj q h1 h2).mono ht (fun zz zz e=>e) (fun ob e=>(sb.2 _ ne1).trans e) (fun ob e=>(sb.2 _ ne2).trans e)
  · intro b o e
    have ne:b ≠ p.2:=fun q=>by rw [q,hbase] at e; cases e
    rw [sb.2 b ne]; exact x.base b o e
theorem Aft.turn {own:List Addr} {p:Addr × Addr} (hm:p ∈ am) (sb:Heap.SameBut p.2 h h') (ht:TupKept h h') (lv:(h'.get? p.2).isSome = true):Aft own h am h' am:=
  ⟨fun b o e zz n=>by
    have ne:b ≠ p.2:=fun q=>n (by rw [q]; exact List.mem_map_of_mem hm)
    rw [sb.2 b ne]; exact e,ht,⟨[],by simp,by simp⟩,fun b e=>by
    by_cases q:b = p.2
    · rw [q]; exact lv
    · rw [sb.2 b q]; exact e⟩
theorem TupKept.turn {a : Addr} (sb : Heap.SameBut a h h') {o : Obj} (ho : h.get? a = some o) (hc : o.cls ≠ .type "tuple") : TupKept h h' := by
  intro b items t
  obtain ⟨ob,hb,hcl,r⟩:=t
  have ne:b ≠ a:=fun q=>by rw [q,ho] at hb; cases hb; exact hc hcl
  exact ⟨ob,(sb.2 b ne).trans hb,hcl,r⟩
theorem HR.first (x:HR G am h hp) {a:Addr} {o:Obj} (ho:h.get? a = some o) (hd:∀ C dx,o ≠ instObj C dx):∀ q ∈ am,q.1 = a → q.1 = q.2:=by
  intro q hm e
  obtain ⟨i,hi,eq⟩:=List.getElem_of_mem hm
  obtain ⟨o',ho'⟩:∃ o,hp[i]? = some o:=⟨_,List.getElem?_eq_getElem (x.len ▸ hi)⟩
  have:=x.objs i o' q ho' (by rw [List.getElem?_eq_getElem hi,eq])
  cases this with
  | list a b c d=>rfl
  | flist a b c=>rfl
  | inst a' b c d e' f i j=>dsimp only at e; rw [e,ho] at b; exact absurd (Option.some.inj b) (hd _ _)
end
end Mine
end
noncomputable section
namespace Mine
open PySem PySem.W PyProof.Rows
structure GOk (G:Glb):Prop where
  x:G.K.In G.base
  wsN:G.ws.Nodup
  wsOk:∀ s ∈ G.ws,PyData.strOk s = true
  nolimit:G.base.NoLimit
  seer:G.base.NoSeer
  tree:G.prog.given.tree = none
mutual
noncomputable def toPy (ws:List Str):D → PyData
  | .none=>.none
  | .int i=>.int i
  | .str w=>.str (ws[w]?.getD Str.empty)
  | .tup xs=>.tuple (toPys ws xs)
  | .list xs=>.list (toPys ws xs)
noncomputable def toPys (ws:List Str):List D → List PyData
  | []=>[]
  | x :: xs=>toPy ws x :: toPys ws xs
end
mutual
noncomputable def DW:D → Nat → Prop
  | .none,_=>False
  | .int _,_=>False
  | .str w,u=>w = u
  | .tup xs,u=>DWs xs u
  | .list xs,u=>DWs xs u
noncomputable def DWs:List D → Nat → Prop
  | [],_=>False
  | x :: xs,u=>DW x u ∨ DWs xs u
end
section
variable {G:Glb} {am:AM} {h:Heap} {hp:Hp}
theorem HR.items (x:HR G am h hp) {a:Nat} {o:O} {xs:List V} {p:Addr × Addr} (ho:hp[a]? = some o) (hi:o.items = some xs) (hm:am[a]? = some p) :
    ∃ vs n ob, h.get? p.1 = some ob ∧ ob.cls = .type "list" ∧ ob.data = .seq vs.toArray n ∧ RVs G.ws am h xs vs ∧ xs.length ≤ lim := by
  have:=x.objs a o p ho hm
  cases this with
  | list a b c d=>simp [O.items] at hi; subst hi; exact ⟨_,_,_,a,rfl,rfl,b,c⟩
  | flist a b c=>
    simp [O.items] at hi; subst hi
    obtain ⟨ob,h1,h2,n,h3⟩:=a
    exact ⟨_,n,ob,x.base _ _ h1,h2,h3,b,c⟩
  | inst=>simp [O.items] at hi
theorem mapO_nil {α β:Type} {f:α → Option β} {ys:List β} (e:mapO f [] = some ys):ys = []:=by simp [mapO] at e; exact e
set_option tactic.hygienic true in
theorem mapO_cons {α β:Type} {f:α → Option β} {x:α} {xs:List α} {ys:List β} (e:mapO f (x :: xs) = some ys):∃ y r,f x = some y ∧ mapO f xs = some r ∧ ys = y :: r:=by
  simp only [mapO] at e
  split at e
  · rename_i y r h1 h2; exact ⟨y,r,h1,h2,(Option.some.inj e).symm⟩
  · cases e
set_option tactic.hygienic true in
theorem rd_reads (GO:GOk G) (x:HR G am h hp):∀ (n:Nat) (v:V) (d:D) (val:Value),rd n hp v = some d → RV G.ws am h v val → ∃ as,Reads h val (toPy G.ws d) as ∧ (toPy G.ws d).canLay0 = true ∧ (toPy G.ws d).depth ≤ n:=by
  intro n
  induction n with
  | zero=>intro v d val e; simp [rd] at e
  | succ n ih=>
    have all:∀ (xs:List V) (vs:List Value) (ds:List D),RVs G.ws am h xs vs → mapO (rd n hp) xs = some ds → ∃ as,ReadsAll h vs (toPys G.ws ds) as ∧ PyData.canLayAll0 (toPys G.ws ds) = true ∧ PyData.depthAll (toPys G.ws ds) ≤ n:=by
      intro xs
      induction xs with
      | nil=>intro vs ds r e; cases r; rw [mapO_nil e]; exact ⟨_,.nil,by simp [toPys,PyData.canLayAll0],by simp [toPys,PyData.depthAll]⟩
      | cons y ys hi=>
        intro vs ds r e
        cases r with
        | cons r1 r2=>
          obtain ⟨d,r,e1,e2,rfl⟩:=mapO_cons e
          obtain ⟨as,a1,a2,a3⟩:=ih y d _ e1 r1
          obtain ⟨bs,b1,b2,b3⟩:=hi _ r r2 e2
          refine ⟨_,by rw [toPys]; exact .cons a1 b1,?_,?_⟩
          · simp [toPys,PyData.canLayAll0,a2,b2]
          · simp only [toPys,PyData.depthAll]; (first | lia | omega)
    intro v d val e rv
    cases rv with
    | none=>simp [rd] at e; subst e; exact ⟨_,by rw [toPy]; exact .none,by simp [toPy,PyData.canLay0],by simp [toPy,PyData.depth]⟩
    | bool b=>simp [rd] at e
    | int i t=>simp [rd] at e; subst e; exact ⟨_,by rw [toPy]; exact .int i t,by simp [toPy,PyData.canLay0],by simp [toPy,PyData.depth]⟩
    | str t hw=>
      simp [rd] at e; subst e
      refine ⟨_,by rw [toPy,hw]; exact .str _ t,?_,by simp [toPy,PyData.depth]⟩
      simp only [toPy,hw,PyData.canLay0,Option.getD_some]
      exact GO.wsOk _ (List.mem_of_getElem? hw)
    | tup i r l=>
      simp only [rd,Option.map_eq_some_iff] at e
      obtain ⟨ds,e1,rfl⟩:=e
      obtain ⟨as,a1,a2,a3⟩:=all _ _ ds r e1
      obtain ⟨o,h1,h2,k,h3⟩:=i
      refine ⟨as,by rw [toPy]; exact reads_tuple_at h1 h2 h3 (by simpa using a1),by simp [toPy,PyData.canLay0,a2],by simp only [toPy,PyData.depth]; (first | lia | omega)⟩
    | ref hm=>
      rename_i a p
      simp only [rd] at e
      split at e
      · rename_i o ho
        split at e
        · rename_i xs hi
          simp only [Option.map_eq_some_iff] at e
          obtain ⟨ds,e1,rfl⟩:=e
          obtain ⟨vs,k,ob,h1,h2,h3,h4,-⟩:=x.items ho hi hm
          obtain ⟨as,a1,a2,a3⟩:=all _ _ ds h4 e1
          refine ⟨_,by rw [toPy]; exact reads_list_at h1 h2 h3 (by simpa using a1),by simp [toPy,PyData.canLay0,a2],by simp only [toPy,PyData.depth]; (first | lia | omega)⟩
        · cases e
      · cases e
set_option tactic.hygienic true in
mutual
theorem eqv_iff {ws:List Str} (hn:ws.Nodup):∀ (a b:D),(∀ w,DW a w → w < ws.length) → (∀ w,DW b w → w < ws.length) → (PyData.eqv (toPy ws a) (toPy ws b) = true ↔ a = b)
  | .none,b,_,_=>by cases b <;> simp [toPy,PyData.eqv]
  | .int i,b,_,_=>by cases b <;> simp [toPy,PyData.eqv]
  | .str w,b,ha,hb=>by
    cases b <;> simp [toPy,PyData.eqv]
    rename_i w'
    have h1:=ha w (by simp [DW])
    have h2:=hb w' (by simp [DW])
    rw [List.getElem?_eq_getElem h1,List.getElem?_eq_getElem h2]
    simp only [Option.getD_some]
    constructor
    · intro e
      exact (List.getElem?_inj h1 hn).mp (by rw [List.getElem?_eq_getElem h1,List.getElem?_eq_getElem h2,e])
    · rintro rfl; rfl
  | .tup xs,b,ha,hb=>by
    cases b <;> simp [toPy,PyData.eqv]
    rename_i ys
    exact eqvAll_iff hn xs ys (fun w q=>ha w (by simpa [DW] using q)) (fun w q=>hb w (by simpa [DW] using q))
  | .list xs,b,ha,hb=>by
    cases b <;> simp [toPy,PyData.eqv]
    rename_i ys
    exact eqvAll_iff hn xs ys (fun w q=>ha w (by simpa [DW] using q)) (fun w q=>hb w (by simpa [DW] using q))
theorem eqvAll_iff {ws:List Str} (hn:ws.Nodup):∀ (xs ys:List D),(∀ w,DWs xs w → w < ws.length) → (∀ w,DWs ys w → w < ws.length) → (PyData.eqvAll (toPys ws xs) (toPys ws ys) = true ↔ xs = ys)
  | [],[],_,_=>by simp [toPys,PyData.eqvAll]
  | [],_ :: _,_,_=>by simp [toPys,PyData.eqvAll]
  | _ :: _,[],_,_=>by simp [toPys,PyData.eqvAll]
  | x :: xs,y :: ys,ha,hb=>by
    simp only [toPys,PyData.eqvAll,Bool.and_eq_true,List.cons.injEq]
    rw [eqv_iff hn x y (fun w q=>ha w (by simp [DWs,q])) (fun w q=>hb w (by simp [DWs,q])),eqvAll_iff hn xs ys (fun w q=>ha w (by simp [DWs,q])) (fun w q=>hb w (by simp [DWs,q]))]
end
end
end Mine
end
noncomputable section
namespace Mine
open PySem PySem.W PyProof.Rows
section
variable {G:Glb} {am:AM} {h:Heap} {hp:Hp}
set_option tactic.hygienic true in
theorem rd_words (x:HR G am h hp):∀ (n:Nat) (v:V) (d:D) (val:Value),rd n hp v = some d → RV G.ws am h v val → ∀ w,DW d w → w < G.ws.length:=by
  intro n
  induction n with
  | zero=>intro v d val e; simp [rd] at e
  | succ n ih=>
    have all:∀ (xs:List V) (vs:List Value) (ds:List D),RVs G.ws am h xs vs → mapO (rd n hp) xs = some ds → ∀ w,DWs ds w → w < G.ws.length:=by
      intro xs
      induction xs with
      | nil=>intro vs ds r e; rw [mapO_nil e]; intro w q; simp [DWs] at q
      | cons y ys hi=>
        intro vs ds r e w q
        cases r with
        | cons r1 r2=>
          obtain ⟨d,r,e1,e2,rfl⟩:=mapO_cons e
          simp only [DWs] at q
          rcases q with q | q
          · exact ih y d _ e1 r1 w q
          · exact hi _ r r2 e2 w q
    intro v d val e rv w q
    cases rv with
    | none=>simp [rd] at e; subst e; simp [DW] at q
    | bool b=>simp [rd] at e
    | int i t=>simp [rd] at e; subst e; simp [DW] at q
    | str t hw=>simp [rd] at e; subst e; simp [DW] at q; subst q; obtain ⟨z,_⟩:=List.getElem?_eq_some_iff.mp hw; exact z
    | tup i r l=>
      simp only [rd,Option.map_eq_some_iff] at e
      obtain ⟨ds,e1,rfl⟩:=e
      exact all _ _ ds r e1 w (by simpa [DW] using q)
    | ref hm=>
      rename_i a p
      simp only [rd] at e
      split at e
      · rename_i o ho
        split at e
        · rename_i xs hi
          simp only [Option.map_eq_some_iff] at e
          obtain ⟨ds,e1,rfl⟩:=e
          obtain ⟨vs,k,ob,h1,h2,h3,h4,-⟩:=x.items ho hi hm
          exact all _ _ ds h4 e1 w (by simpa [DW] using q)
        · cases e
      · cases e
end
section
variable {G:Glb} {am:AM} {s:Shared} {hp:Hp} {A:Around} {E:Value → Shared → Prop} {Q:Value → Shared → Prop}
theorem word_eq (GO:GOk G) {w u:Nat} {x y:Str} (h1:G.ws[w]? = some x) (h2:G.ws[u]? = some y):(x = y ↔ w = u):=by
  have l1:w < G.ws.length:=by obtain ⟨z,_⟩:=List.getElem?_eq_some_iff.mp h1; exact z
  constructor
  · rintro rfl; exact (List.getElem?_inj l1 GO.wsN).mp (h1.trans h2.symm)
  · rintro rfl; rw [h1] at h2; exact Option.some.inj h2
set_option tactic.hygienic true in
theorem eqD_ok (GO:GOk G) (x:HR G am s.heap hp) {a b:V} {va vb:Value} {r:Bool} (e:eqD hp a b = some r) (ra:RV G.ws am s.heap a va) (rb:RV G.ws am s.heap b vb) (hu:A.units + 64 < cLine) :
    (Q (.bool r) s → wpAny (model G.prog G.w) A (compareOp .Eq va vb) Q E s) ∧ (Q (.bool (!r)) s → wpAny (model G.prog G.w) A (compareOp .NotEq va vb) Q E s):=by
  unfold eqD at e
  split at e
  · rename_i da db ea eb
    obtain ⟨as,a1,a2,a3⟩:=rd_reads GO x 60 a da va ea ra
    obtain ⟨bs,b1,b2,b3⟩:=rd_reads GO x 60 b db vb eb rb
    have q:=eqv_iff GO.wsN da db (rd_words x 60 a da va ea ra) (rd_words x 60 b db vb eb rb)
    have e':PyData.eqv (toPy G.ws da) (toPy G.ws db) = r:=by
      rw [← Option.some.inj e]
      by_cases hq:da = db
      · rw [q.mpr hq]; simp [hq]
      · rw [Bool.eq_false_iff.mpr fun z=>hq (q.mp z)]; simp [hq]
    have sa:SeqAt.shaped (toPy G.ws da) = true:=by unfold SeqAt.shaped; rw [a2,Bool.true_and]; exact decide_eq_true (nlt a3 (by decide))
    have sb:SeqAt.shaped (toPy G.ws db) = true:=by unfold SeqAt.shaped; rw [b2,Bool.true_and]; exact decide_eq_true (nlt b3 (by decide))
    exact ⟨fun h=>eq_dataH a1 b1 sa sb hu (by rw [e']; exact h),fun h=>ne_dataH a1 b1 sa sb hu (by rw [e']; exact h)⟩
  · cases e
theorem eqop_ok (GO:GOk G) (x:HR G am s.heap hp) {a b:V} {va vb:Value} {r:Bool} (e:eqop a b hp = some r) (ra:RV G.ws am s.heap a va) (rb:RV G.ws am s.heap b vb) (hu:A.units + 64 < cLine) :
    (Q (.bool r) s → wpAny (model G.prog G.w) A (compareOp .Eq va vb) Q E s) ∧ (Q (.bool (!r)) s → wpAny (model G.prog G.w) A (compareOp .NotEq va vb) Q E s):=by
  cases ha:a.asBool with
  | none=>
    change (match a.asBool with | some x=>b.asBool.map fun y=>decide (x = y) | none=>eqD hp a b) = some r at e
    rw [ha] at e
    exact eqD_ok GO x e ra rb hu
  | some p=>
    change (match a.asBool with | some x=>b.asBool.map fun y=>decide (x = y) | none=>eqD hp a b) = some r at e
    rw [ha] at e
    obtain ⟨q,hb,e2⟩:=map_some' e
    clear e
    subst e2
    rw [asBool_some ha] at ra
    rw [asBool_some hb] at rb
    cases ra; cases rb
    refine ⟨fun h=>eq_bool (by simpa [BEq.beq] using h),fun h=>ne_bool ?_⟩
    simpa [bne,BEq.beq] using h
theorem allStr_reads (GO:GOk G) {xs:List V} {vs:List Value} {us:List Nat} (r:RVs G.ws am s.heap xs vs) (e:allStr xs = some us) :
    ∃ as,ReadsAll s.heap vs (us.map fun w=>PyData.str (G.ws[w]?.getD Str.empty)) as ∧ PyData.canLayAll0 (us.map fun w=>PyData.str (G.ws[w]?.getD Str.empty)) = true ∧ PyData.depthAll (us.map fun w=>PyData.str (G.ws[w]?.getD Str.empty)) ≤ 1 ∧ ∀ u ∈ us,u < G.ws.length:=by
  induction xs generalizing vs us with
  | nil=>cases r; cases e; exact ⟨_,.nil,rfl,Nat.zero_le _,fun zz z=>(by cases z)⟩
  | cons x xs ih=>
    cases r with
    | cons r1 r2=>cases r1 with
      | str t hw=>
        obtain ⟨u,e1,e2⟩:=map_some' (show (allStr xs).map _ = some us from e)
        subst e2
        obtain ⟨as,a1,a2,a3,a4⟩:=ih r2 e1
        refine ⟨_,by simp only [List.map_cons,hw]; exact .cons (.str _ t) a1,?_,?_,?_⟩
        · simp only [List.map_cons,PyData.canLayAll0,PyData.canLay0,hw,Option.getD_some,a2,Bool.and_true]; exact GO.wsOk _ (List.mem_of_getElem? hw)
        · simp only [List.map_cons,PyData.depthAll,PyData.depth]; (first | lia | omega)
        · intro v hv
          rcases List.mem_cons.mp hv with rfl | hv
          · obtain ⟨z,_⟩:=List.getElem?_eq_some_iff.mp hw; exact z
          · exact a4 v hv
      | _=>cases e
theorem allInt_reads {xs:List V} {vs:List Value} {us:List Int} (r:RVs G.ws am s.heap xs vs) (e:allInt xs = some us) :
    ∃ as,ReadsAll s.heap vs (us.map PyData.int) as ∧ PyData.canLayAll0 (us.map PyData.int) = true ∧ PyData.depthAll (us.map PyData.int) ≤ 1:=by
  induction xs generalizing vs us with
  | nil=>cases r; cases e; exact ⟨_,.nil,rfl,Nat.zero_le _⟩
  | cons x xs ih=>
    cases r with
    | cons r1 r2=>cases r1 with
      | int i t=>
        obtain ⟨u,e1,e2⟩:=map_some' (show (allInt xs).map _ = some us from e)
        subst e2
        obtain ⟨as,a1,a2,a3⟩:=ih r2 e1
        refine ⟨_,by simp only [List.map_cons]; exact .cons (.int i t) a1,?_,?_⟩
        · simp only [List.map_cons,PyData.canLayAll0,PyData.canLay0,a2,Bool.and_true]
        · simp only [List.map_cons,PyData.depthAll,PyData.depth]; (first | lia | omega)
      | _=>cases e
theorem any_str (GO:GOk G) {w:Nat} (hw:w < G.ws.length):∀ (us:List Nat),(∀ u ∈ us,u < G.ws.length) → ((us.map fun w=>PyData.str (G.ws[w]?.getD Str.empty)).any fun y=>PyData.eqv y (.str (G.ws[w]?.getD Str.empty))) = decide (w ∈ us)
  | [],_=>by simp
  | u :: us,h=>by
    have ih:=any_str GO hw us fun v hv=>h v (.tail _ hv)
    have hu:=h u (.head _)
    simp only [List.map_cons,List.any_cons,ih,PyData.eqv,List.mem_cons]
    have q:=word_eq GO (w:=u) (u:=w) (List.getElem?_eq_getElem hu) (List.getElem?_eq_getElem hw)
    rw [List.getElem?_eq_getElem hu,List.getElem?_eq_getElem hw]
    simp only [Option.getD_some]
    by_cases e:u = w
    · simp [e]
    · have:¬ G.ws[u] = G.ws[w]:=fun z=>e (q.mp z)
      have e':¬ w = u:=fun z=>e z.symm
      simp [this,e']
theorem any_int {i:Int}:∀ (us:List Int),((us.map PyData.int).any fun y=>PyData.eqv y (.int i)) = decide (i ∈ us)
  | []=>by simp
  | u :: us=>by
    have ih:=any_int (i:=i) us
    simp only [List.map_cons,List.any_cons,ih,PyData.eqv,List.mem_cons]
    by_cases e:u = i
    · simp [e]
    · have e':¬ i = u:=fun z=>e z.symm
      simp [e,e']
set_option tactic.hygienic true in
theorem inS_ok (GO:GOk G) {c:Addr} {a:V} {xs:List V} {va vc:Value} {vs:List Value} {r:Bool} (e:inS a xs = some r) (ra:RV G.ws am s.heap a va) (rs:RVs G.ws am s.heap xs vs)
    (hc:IsTup s.heap c vs.toArray ∨ s.heap.IsList c vs.toArray) (hv:vc = .ref c) (hu:A.units + 64 < cLine) (h:Q (.bool r) s):wpAny (model G.prog G.w) A (compareOp .In va vc) Q E s:=by
  subst hv
  have go:∀ {ds:List PyData} {d:PyData} {as bs:List Addr},ReadsAll s.heap vs ds as → Reads s.heap va d bs → PyData.canLayAll0 ds = true → d.canLay0 = true → d.depth ≤ 1 → (ds.any fun y=>PyData.eqv y d) = r → wpAny (model G.prog G.w) A (compareOp .In va (.ref c)) Q E s:=by
    intro ds d as bs r1 r2 l1 l2 l3 l4
    have hu':A.units + 1 + min (PyData.depthAll ds) d.depth < cLine:=by
      have:min (PyData.depthAll ds) d.depth ≤ 1:=nlt (Nat.min_le_right _ _) l3
      (first | lia | omega)
    rcases hc with ⟨o,h1,h2,n,h3⟩ | ⟨o,h1,h2,n,h3⟩
    · exact SeqAt.in_tuple_reads (reads_tuple_at h1 h2 h3 (by simpa using r1)) r2 l1 l2 hu' (by rw [l4]; exact h)
    · exact SeqAt.in_list_reads (reads_list_at h1 h2 h3 (by simpa using r1)) r2 l1 l2 hu' (by rw [l4]; exact h)
  unfold inS at e
  split at e
  · rename_i w
    obtain ⟨us,e1,rfl⟩:=Option.map_eq_some_iff.mp e
    obtain ⟨as,a1,a2,a3,a4⟩:=allStr_reads GO rs e1
    cases ra with
    | str t hw=>
      have hl:w < G.ws.length:=by obtain ⟨z,_⟩:=List.getElem?_eq_some_iff.mp hw; exact z
      refine go (d:=.str (G.ws[w]?.getD Str.empty)) (bs:=[]) a1 (by rw [hw]; exact .str _ t) a2 ?_ (by simp [PyData.depth]) (any_str GO hl us a4)
      rw [hw]; simp only [Option.getD_some,PyData.canLay0]; exact GO.wsOk _ (List.mem_of_getElem? hw)
  · rename_i i
    obtain ⟨us,e1,rfl⟩:=Option.map_eq_some_iff.mp e
    obtain ⟨as,a1,a2,a3⟩:=allInt_reads rs e1
    cases ra with
    | int i t=>exact go (d:=.int i) (bs:=[]) a1 (.int i t) a2 (by simp [PyData.canLay0]) (by simp [PyData.depth]) (any_int us)
  · cases e
theorem isnot_none_gen {v:Value} (h:Q (.bool (!(v == .none))) s):wpAny (model G.prog G.w) A (compareOp .IsNot v .none) Q E s:=by
  cases v with
  | none=>exact isnot_none_none (by simpa using h)
  | _=>exact isnot_none_ne (by intro z; cases z) h
theorem nil_ok {a:V} {va:Value} {q:Bool} (e:nilOf a = some q) (ra:RV G.ws am s.heap a va):(va == .none) = q:=by
  cases ra with
  | bool b=>cases e
  | none=>cases e; rfl
  | _=>cases e; rfl
theorem is_none_all {v:Value} (h:Q (.bool (v == .none)) s):wpAny (model G.prog G.w) A (compareOp .Is v .none) Q E s:=by
  cases v with
  | none=>exact is_none_gen (by simpa using h)
  | _=>exact is_none_ne (by intro z; cases z) h
theorem cmpop_ok (GO:GOk G) (x:HR G am s.heap hp) {op:CmpOp} {c2:C2} (ho:opC op = some c2) {a b:V} {va vb:Value} {r:Bool} (e:cmpop c2 a b hp = some r) (ra:RV G.ws am s.heap a va) (rb:RV G.ws am s.heap b vb) (hu:A.units + 64 < cLine)
    (h:Q (.bool r) s):wpAny (model G.prog G.w) A (compareOp op va vb) Q E s:=by
  have two:∀ {f:Int → Int → Bool},(a.asInt.bind fun x=>b.asInt.map fun y=>f x y) = some r → ∃ p q t u,va = .int p t ∧ vb = .int q u ∧ f p q = r:=fun {f} e=>by
    obtain ⟨p,h1,e⟩:=bind_some e
    obtain ⟨q,h2,e⟩:=map_some' e
    rw [asInt_some h1] at ra
    rw [asInt_some h2] at rb
    cases ra; cases rb
    exact ⟨_,_,_,_,rfl,rfl,e⟩
  cases op with
  | NotIn=>cases ho
  | Eq=>cases ho; exact (eqop_ok GO x e ra rb hu).1 h
  | NotEq=>
    cases ho
    obtain ⟨q,e1,e2⟩:=map_some' (show (eqop a b hp).map not = some r from e)
    subst e2
    exact (eqop_ok GO x e1 ra rb hu).2 h
  | Lt=>cases ho; obtain ⟨p,q,t,u,rfl,rfl,rfl⟩:=two (f:=fun x y=>decide (x < y)) e; exact lt_int h
  | LtE=>cases ho; obtain ⟨p,q,t,u,rfl,rfl,rfl⟩:=two (f:=fun x y=>decide (x ≤ y)) e; exact le_int h
  | Gt=>cases ho; obtain ⟨p,q,t,u,rfl,rfl,rfl⟩:=two (f:=fun x y=>decide (y < x)) e; exact gt_int h
  | GtE=>cases ho; obtain ⟨p,q,t,u,rfl,rfl,rfl⟩:=two (f:=fun x y=>decide (y ≤ x)) e; exact ge_int h
  | Is=>
    cases ho
    obtain ⟨hb,e⟩:=if_some (show (if isNil b = true then nilOf a else none) = some r from e)
    rw [isNil_true hb] at rb
    cases rb
    exact is_none_all (by rw [nil_ok e ra]; exact h)
  | IsNot=>
    cases ho
    obtain ⟨hb,e⟩:=if_some (show (if isNil b = true then (nilOf a).map not else none) = some r from e)
    obtain ⟨q,e1,e2⟩:=map_some' e
    subst e2
    rw [isNil_true hb] at rb
    cases rb
    exact isnot_none_gen (by rw [nil_ok e1 ra]; exact h)
  | In=>
    cases ho
    obtain ⟨xs,e1,e'⟩:=bind_some (show (seqOf b hp).bind (inS a) = some r from e)
    clear e
    change (match b.asTup with | some xs=>some xs | none=>lstOf b hp) = some xs at e1
    cases ht:b.asTup with
    | some ys=>
      rw [ht] at e1
      cases e1
      rw [asTup_some ht] at rb
      cases rb with
      | tup i r l=>exact inS_ok GO e' ra r (.inl i) rfl hu h
    | none=>
      rw [ht] at e1
      obtain ⟨p,rfl,hx⟩:=lstOf_some e1
      cases rb with
      | ref hm=>
        obtain ⟨vs,n,ob,h1,h2,h3,h4,-⟩:=x.items hx rfl hm
        exact inS_ok GO e' ra h4 (.inr ⟨ob,h1,h2,n,h3⟩) rfl hu h
end
end Mine
end
noncomputable section
namespace Mine
open PySem PySem.W PyProof.Rows
section
variable {G:Glb} {am:AM} {s:Shared} {hp:Hp} {A:Around} {E:Value → Shared → Prop} {Q:V → Hp → Prop}
theorem Same.toks (x:Same G s) (t:Nat):Same G { s with toks:=t }:=⟨x.gens,x.os⟩
theorem Same.heap (x:Same G s) (h:Heap):Same G { s with heap:=h }:=⟨x.gens,x.os⟩
theorem evp_new_list {hp:Hp} {xs:List V} {vs:List Value} (x:HR G am s.heap hp) (sm:Same G s) (r:RVs G.ws am s.heap xs vs) (l:xs.length ≤ lim) (q:Q (.ref hp.length) (hp ++ [.list xs])) {items:Array Value} (hi:items = vs.toArray) :
    EvP G s am Q (.ref s.heap.objs.size) { s with heap := s.heap.push { cls := .type "list", data := .seq items } } := by
  subst hi
  have k := keep_push (h := s.heap) ({ cls := .type "list", data := .seq vs.toArray } : Obj)
  have le:AM.Le am (am ++ [(s.heap.objs.size,s.heap.objs.size)]):=fun i q e=>by rw [List.getElem?_append_left (by obtain ⟨z,_⟩:=List.getElem?_eq_some_iff.mp e; exact z)]; exact e
  have b:G.base.get? s.heap.objs.size = none:=by
    cases c:G.base.get? s.heap.objs.size with
    | none=>rfl
    | some o=>have:=x.base _ _ c; rw [get_none_of_size] at this; cases this
  refine ⟨.ref hp.length,hp ++ [.list xs],am ++ [(s.heap.objs.size,s.heap.objs.size)],q,?_,?_,?_,sm.heap _⟩
  · have:(am ++ [(s.heap.objs.size,s.heap.objs.size)])[hp.length]? = some (s.heap.objs.size,s.heap.objs.size):=by rw [← x.len]; exact am_last _
    exact .ref this
  · exact x.more k get_none_of_size (.list (Heap.get?_push_size _ rfl) (r.mono (TupKept.push _) le) l b)
  · exact Aft.more k get_none_of_size get_none_of_size
theorem intBits_small {i:Int} (h:small i = true):Builtin.Int.intBits i ≤ 64:=by
  simp only [small,decide_eq_true_eq] at h
  unfold Builtin.Int.intBits
  split
  · (first | lia | omega)
  · rename_i hz
    have:i.natAbs.log2 < 60:=(Nat.log2_lt (fun q=>hz (by simpa using q))).mpr (by simpa using h)
    (first | lia | omega)
theorem repL_fold (vs:List Value):∀ (n:Nat) (acc:Array Value),List.foldl (fun x1 x2=>x1 ++ x2) acc (List.replicate n vs.toArray) = acc ++ ((List.replicate n vs).flatten).toArray
  | 0,acc=>by simp
  | n + 1,acc=>by rw [List.replicate_succ,List.foldl_cons,repL_fold vs n,List.replicate_succ]; simp
theorem RVs.rep {ws:List Str} {h:Heap} {xs:List V} {vs:List Value} (r:RVs ws am h xs vs):∀ (n:Nat),RVs ws am h (repL xs n) (List.replicate n vs).flatten
  | 0=>by simp [repL]; exact .nil
  | n + 1=>by simp [repL,List.replicate_succ]; exact r.append (r.rep n)
theorem repL_length (xs:List V):∀ n,(repL xs n).length = xs.length * n
  | 0=>by simp [repL]
  | n + 1=>by simp [repL,repL_length xs n,Nat.mul_succ]; (first | lia | omega)
theorem pylong (GO:GOk G) (x:HR G am s.heap hp) {X:Nat → Hp → Prop} {r:Nat} (rm:Room X A r):PySem.PylongRoom (model G.prog G.w) A s:=by
  obtain ⟨env,l,h1,h2,h3,h4,h5⟩:=rm.frames
  exact PySem.PylongRoom.of (GO.nolimit.keeps x.base) (by have:=rm.depth; simp only [Builtin.pylongFrames]; (first | lia | omega)) (PySem.SeerAt.of (GO.seer.keeps x.base) GO.tree h1 h2 h3 h4 h5)
theorem opB_inv {op:Operator} {b2:B2} (ho:opB op = some b2):(op = .Add ∧ b2 = .add) ∨ (op = .Sub ∧ b2 = .sub) ∨ (op = .Mult ∧ b2 = .mul) ∨ (op = .FloorDiv ∧ b2 = .div) ∨ (op = .Mod ∧ b2 = .mod):=by
  cases op <;> cases ho
  · exact .inl ⟨rfl,rfl⟩
  · exact .inr (.inl ⟨rfl,rfl⟩)
  · exact .inr (.inr (.inl ⟨rfl,rfl⟩))
  · exact .inr (.inr (.inr (.inr ⟨rfl,rfl⟩)))
  · exact .inr (.inr (.inr (.inl ⟨rfl,rfl⟩)))
theorem ints_ok {a b:V} {va vb:Value} {f:Int → Int → Option (V × Hp)} {p:V × Hp} (e:intsV a b f = some p) (ra:RV G.ws am s.heap a va) (rb:RV G.ws am s.heap b vb):∃ i j t u,va = .int i t ∧ vb = .int j u ∧ f i j = some p:=by
  obtain ⟨i,h1,e⟩:=bind_some e
  obtain ⟨j,h2,e⟩:=bind_some e
  rw [asInt_some h1] at ra
  rw [asInt_some h2] at rb
  cases ra; cases rb
  exact ⟨_,_,_,_,rfl,rfl,e⟩
set_option tactic.hygienic true in
theorem mul_list (x:HR G am s.heap hp) (sm:Same G s) {a0:Nat} {i:Int} {va vb:Value} {xs:List V} (h1:hp[a0]? = some (.list xs)) (hl:i.natAbs ≤ lim ∧ xs.length * i.toNat ≤ lim) (ra:RV G.ws am s.heap (.ref a0) va) (rb:RV G.ws am s.heap (.int i) vb)
    (h:Q (.ref hp.length) (hp ++ [.list (repL xs i.toNat)])):wpAny (model G.prog G.w) A (binaryOp .Mult va vb) (EvP G s am Q) E s:=by
  cases ra with
  | ref m1=>cases rb with
    | int _ u=>
      have o1:=x.objs _ _ _ h1 m1
      cases o1 with
      | list g1 g2 g3 g4=>
        rename_i x1 vs n
        have ln:=g2.length
        have hsz:vs.toArray.size * i.toNat ≤ 2 ^ 24:=by rw [List.size_toArray,← ln]; have:=hl.2; simp only [lim] at this; (first | lia | omega)
        refine wpAny_binaryOp_repeat_ref (T := "list") (U := "int") (by decide) ⟨_, g1, rfl⟩ (fun s' => typeIs_int s' i u) noFill_list_mul F.fills_int_mul F.slot_int_rmul repeat_list F.slot_int_index.lookup
          (call_meets F.slot_int_rmul (typeIs_int s i u) F.entry_int_rmul (F.args_int_rmul_2 _ _) (int___rmul___int_list i u _ vs.toArray n)
            ⟨g1,rfl,⟨_,g1,rfl⟩,call_meets F.slot_list_mul ⟨_,g1,rfl⟩ F.entry_list_mul (F.args_list_mul_2 _ _)
              (AutoListH.list___mul___list_int_3 _ vs.toArray n i u (by simp [Builtin.List.listFitsIndex]; have:=hl.1; simp only [lim] at this; (first | lia | omega)) (by (first | lia | omega)) (by simp [Builtin.List.listTooLong,sizeLine]; simp only [List.size_toArray] at hsz; (first | lia | omega)))
              ⟨g1,?_⟩⟩)
        refine evp_new_list x sm (g2.rep i.toNat) (by rw [repL_length]; exact hl.2) h ?_
        by_cases hv:vs = []
        · subst hv; simp
        · rw [if_neg (by simpa using hv),repL_fold]; simp
theorem binop_ok (GO:GOk G) (x:HR G am s.heap hp) (sm:Same G s) {op:Operator} {b2:B2} (ho:opB op = some b2) {a b:V} {va vb:Value} {p:V × Hp} (e:binop b2 a b hp = some p) (ra:RV G.ws am s.heap a va) (rb:RV G.ws am s.heap b vb)
    {X:Nat → Hp → Prop} {r:Nat} (rm:Room X A r) (h:Q p.1 p.2):wpAny (model G.prog G.w) A (binaryOp op va vb) (EvP G s am Q) E s:=by
  have here:∀ i,Q (.int i) hp → EvP G s am Q (.int i s.toks) { s with toks:=s.toks + 1 }:=fun i q=>evp_here (v:=.int i) q (.int i _) x rfl (sm.toks _)
  rcases opB_inv ho with ⟨rfl,rfl⟩ | ⟨rfl,rfl⟩ | ⟨rfl,rfl⟩ | ⟨rfl,rfl⟩ | ⟨rfl,rfl⟩
  · change (match a.asInt with | some x=>b.asInt.map fun y=>(V.int (x + y),hp) | none=>(lstOf a hp).bind fun xs=>(lstOf b hp).bind fun ys=>if xs.length + ys.length ≤ lim then some (V.ref hp.length,hp ++ [O.list (xs ++ ys)]) else none) = some p at e
    cases ha:a.asInt with
    | some i=>
      rw [ha] at e
      obtain ⟨j,hb,e⟩:=map_some' e
      subst e
      rw [asInt_some ha] at ra
      rw [asInt_some hb] at rb
      cases ra; cases rb; exact PyProof.Rows.add_int (here _ h)
    | none=>
      rw [ha] at e
      obtain ⟨xs,h1,e⟩:=bind_some e
      obtain ⟨ys,h2,e⟩:=bind_some e
      obtain ⟨hl,e⟩:=if_some e
      cases e
      obtain ⟨a1,rfl,l1⟩:=lstOf_some h1
      obtain ⟨a2,rfl,l2⟩:=lstOf_some h2
      cases ra with
      | ref m1=>cases rb with
        | ref m2=>
          have o1:=x.objs _ _ _ l1 m1
          have o2:=x.objs _ _ _ l2 m2
          cases o1 with
          | list g1 g2 g3 g4=>cases o2 with
            | list k1 k2 k3 k4=>
              refine P.add_list g1 k1 (evp_new_list x sm (g2.append k2) (by simpa using hl) h (by simp)) ?_
              have:=g2.length
              have:=k2.length
              simp only [List.size_toArray,sizeLine]
              simp only [lim] at hl
              (first | lia | omega)
  · obtain ⟨i,j,t,u,rfl,rfl,e⟩:=ints_ok e ra rb
    cases e; exact PyProof.Rows.sub_int (here _ h)
  · change (match a.asInt with | some x=>b.asInt.bind fun y=>if (small x || small y) = true then some (V.int (x * y),hp) else none | none=>(lstOf a hp).bind fun xs=>b.asInt.bind fun n=>if n.natAbs ≤ lim ∧ xs.length * n.toNat ≤ lim then some (V.ref hp.length,hp ++ [O.list (repL xs n.toNat)]) else none) = some p at e
    cases ha:a.asInt with
    | some i=>
      rw [ha] at e
      obtain ⟨j,hb,e⟩:=bind_some e
      obtain ⟨hs,e⟩:=if_some e
      cases e
      rw [asInt_some ha] at ra
      rw [asInt_some hb] at rb
      cases ra; cases rb
      refine PyProof.Rows.mul_int (here _ h) ?_
      rcases Bool.or_eq_true_iff.mp hs with q | q
      · exact .of_left (intBits_small q)
      · exact .of_right (intBits_small q)
    | none=>
      rw [ha] at e
      obtain ⟨xs,h1,e⟩:=bind_some e
      obtain ⟨i,hb,e⟩:=bind_some e
      obtain ⟨hl,e⟩:=if_some e
      cases e
      obtain ⟨a1,rfl,l1⟩:=lstOf_some h1
      rw [asInt_some hb] at rb
      exact mul_list x sm l1 hl ra rb h
  · obtain ⟨i,j,t,u,rfl,rfl,e⟩:=ints_ok e ra rb
    obtain ⟨hz,e⟩:=if_some e
    cases e; exact PyProof.Rows.floordiv_int hz (here _ h) (.inr (pylong GO x rm))
  · obtain ⟨i,j,t,u,rfl,rfl,e⟩:=ints_ok e ra rb
    obtain ⟨hz,e⟩:=if_some e
    cases e; exact PyProof.Rows.mod_int' hz (here _ h)
end
end Mine
end
noncomputable section
namespace Mine
open PySem PySem.W PyProof.Rows
section
variable {G:Glb} {g:Genv} {C N:Oracle} {env:Env} {names:List (Str × NameKind)} {r:Nat}
theorem Room.u64 {X:Nat → Hp → Prop} {A:Around} {r:Nat} (x:Room X A r):A.units + 64 < cLine:=by have:=x.units; (first | lia | omega)
theorem EvPb.back {s s1:Shared} {am am1:AM} {Q:Bool → Hp → Prop} (a:Aft [] s.heap am s1.heap am1) {v:Bool} {s':Shared} (x:EvPb G s1 am1 Q v s'):EvPb G s am Q v s':=by
  obtain ⟨hp',am',h1,h3,h4,h5⟩:=x
  exact ⟨hp',am',h1,h3,a.trans h4,h5⟩
theorem evpb_here {s s':Shared} {am:AM} {Q:Bool → Hp → Prop} {b:Bool} {hp:Hp} (q:Q b hp) (hr:HR G am s'.heap hp) (e:s'.heap = s.heap) (sm:Same G s'):EvPb G s am Q b s':=
  ⟨hp,am,q,hr,e ▸ Aft.refl _ _ _,sm⟩
theorem snd_bin (GO:GOk G) {e1 e2:PySem.Expr} {i1 i2:Mine.E} {op:Operator} {b2:B2} {pos:Pos} (ho:opB op = some b2) (h1:Snd G g C N env names r e1 i1) (h2:Snd G g C N env names r e2 i2) :
    Snd G g C N env names r (.BinOp e1 op e2 pos) (.bin b2 i1 i2):=fun loc hp Q X A s am h rm R=>by
  dsimp only [wE_bin] at h
  refine wpAny_BinOp (ev_two h1 h2 h rm R fun a b p1 p2 va vb s2 am2 k ra rb R2 a2=>?_)
  cases e:binop b2 a b p2 with
  | none=>rw [e] at k; exact k.elim
  | some p=>
    rw [e,onSome_some] at k
    exact wpAny_mono (binop_ok GO R2.hr R2.same ho e ra rb rm k) (fun zz zz z=>z.back a2) fun zz zz z=>z
theorem snd_pow {a b:Int} {k k':Nat} {p p' pos:Pos} (hb:1 ≤ b) (ha:2 ≤ a) (hc:Builtin.Int.intTooBig (((Builtin.Int.intBits a:Nat):Int) * b) = false) :
    Snd G g C N env names r (.BinOp (.Constant (.int a) k p) .Pow (.Constant (.int b) k' p') pos) (.int (a ^ b.toNat)):=fun loc hp Q X A s am h rm R=>by
  dsimp only [wE_int] at h
  refine wpAny_BinOp (wpAny_Constant_int (wpAny_Constant_int ?_))
  have h1:¬(b == 0) = true:=by simp; (first | lia | omega)
  have h2:¬(a == 0 || a == 1) = true:=by simp; (first | lia | omega)
  have h3:¬(a == -1) = true:=by simp; (first | lia | omega)
  refine AutoIntOps.pow_4 (by (first | lia | omega)) h1 h2 h3 (by simp [hc]) ?_
  exact evp_here (v:=.int (a ^ b.toNat)) h (.int _ _) R.hr rfl ⟨R.same.gens,R.same.os⟩
theorem snd_neg {a:Int} {k:Nat} {p pos:Pos}:Snd G g C N env names r (.UnaryOp .USub (.Constant (.int a) k p) pos) (.int (-a)):=fun loc hp Q X A s am h rm R=>by
  dsimp only [wE_int] at h
  refine UnaryOp_ (wpAny_Constant_int (neg_int ?_))
  exact evp_here (v:=.int (-a)) h (.int _ _) R.hr rfl ⟨R.same.gens,R.same.os⟩
theorem snd_cmp (GO:GOk G) {e1 e2:PySem.Expr} {i1 i2:Mine.E} {op:CmpOp} {c2:C2} {pos:Pos} (ho:opC op = some c2) (hm:behindInMarks op e2 = false) (h1:Snd G g C N env names r e1 i1) (h2:Snd G g C N env names r e2 i2) :
    Snd G g C N env names r (.Compare e1 [op] [e2] pos) (.cmp c2 i1 i2):=fun loc hp Q X A s am h rm R=>by
  dsimp only [wE_cmp] at h
  refine wpAny_Compare1 (ev_two h1 h2 h rm R fun a b p1 p2 va vb s2 am2 k ra rb R2 a2=>?_) hm
  cases e:cmpop c2 a b p2 with
  | none=>rw [e] at k; exact k.elim
  | some b=>
    rw [e,onSome_some] at k
    exact cmpop_ok GO R2.hr ho e ra rb rm.u64 (EvP.back a2 (evp_here (v:=.bool b) k (.bool b) R2.hr rfl R2.same))
theorem sndT_cmp (GO:GOk G) {e1 e2:PySem.Expr} {i1 i2:Mine.E} {op:CmpOp} {c2:C2} {pos:Pos} (ho:opC op = some c2) (hm:behindInMarks op e2 = false) (h1:Snd G g C N env names r e1 i1) (h2:Snd G g C N env names r e2 i2) :
    SndT G g C N env names r (.Compare e1 [op] [e2] pos) (.cmp c2 i1 i2):=fun loc hp Q X A s am whole h rm R zz=>by
  dsimp only [wE_cmp] at h
  refine wpAny_isTrue_Compare1 (ev_two h1 h2 h rm R fun a b p1 p2 va vb s2 am2 k ra rb R2 a2=>?_) hm
  cases e:cmpop c2 a b p2 with
  | none=>rw [e] at k; exact k.elim
  | some b=>
    rw [e,onSome_some] at k
    simp only [isB,onSome_some] at k
    exact cmpop_ok GO R2.hr ho e ra rb rm.u64 (wpAny_truthy_bool (EvPb.back a2 (evpb_here k R2.hr rfl R2.same)))
theorem chain2 (GO:GOk G) {A:Around} {e1 e2 e3:PySem.Expr} {i1 i2 i3:Mine.E} {o1 o2:CmpOp} {c1 c2:C2} {loc:Locs} {hp:Hp} {X:Nat → Hp → Prop} {s:Shared} {am:AM} {K:V → Hp → Prop} {W:Value → Value → Shared → Prop}
    (h1:Snd G g C N env names r e1 i1) (h2:Snd G g C N env names r e2 i2) (h3:Snd G g C N env names r e3 i3) (ho1:opC o1 = some c1) (ho2:opC o2 = some c2) (rm:Room X A r) (R:Rel G env names s am loc hp)
    (h:wpE g C N loc i1 hp (fun va h1=>wpE g C N loc i2 h1 (fun vb h2=>onSome (cmpop c1 va vb h2) fun r=>
      match r with
      | false=>K (.bool false) h2
      | true=>wpE g C N loc i3 h2 (fun vc h3=>onSome (cmpop c2 vb vc h3) fun r2=>K (.bool r2) h3) X) X) X)
    (fin:∀ (va vb:Value) (s2:Shared),wpAny (model G.prog G.w) A (compareOp o1 va vb) (fun c s3=>(c = .bool false ∧ EvP G s am K (.bool false) s3) ∨
      (c = .bool true ∧ wpAny (model G.prog G.w) A (eval e3 env) (fun vc s4=>wpAny (model G.prog G.w) A (compareOp o2 vb vc) (EvP G s am K) XN s4) XN s3)) XN s2 → W va vb s2) :
    wpAny (model G.prog G.w) A (eval e1 env) (fun va s1=>wpAny (model G.prog G.w) A (eval e2 env) (fun vb s2=>W va vb s2) XN s1) XN s:=by
  refine ev_two h1 h2 h rm R fun a b p1 p2 va vb s2 am2 k ra rb R2 a2=>fin va vb s2 ?_
  cases e:cmpop c1 a b p2 with
  | none=>rw [e] at k; exact k.elim
  | some b=>
    rw [e,onSome_some] at k
    refine cmpop_ok GO R2.hr ho1 e ra rb rm.u64 ?_
    cases b with
    | false=>exact .inl ⟨rfl,EvP.back a2 (evp_here (v:=.bool false) k (.bool false) R2.hr rfl R2.same)⟩
    | true=>
      refine .inr ⟨rfl,wpAny_mono (h3 loc p2 _ X A s2 am2 k rm R2) (fun vc s4 z=>?_) fun zz zz z=>z⟩
      obtain ⟨c,p3,am3,z1,z2,z3,z4,z5⟩:=z
      cases e':cmpop c2 b c p3 with
      | none=>rw [e'] at z1; exact z1.elim
      | some q=>
        rw [e',onSome_some] at z1
        exact cmpop_ok GO z3 ho2 e' (z4.rv rb) z2 rm.u64 (EvP.back (a2.trans z4) (evp_here (v:=.bool q) z1 (.bool q) z3 rfl z5))
theorem snd_cmp2 (GO:GOk G) {e1 e2 e3:PySem.Expr} {i1 i2 i3:Mine.E} {o1 o2:CmpOp} {c1 c2:C2} {pos:Pos} (ho1:opC o1 = some c1) (ho2:opC o2 = some c2) (hm:lastMarks [o1,o2] [e2,e3] = false)
    (h1:Snd G g C N env names r e1 i1) (h2:Snd G g C N env names r e2 i2) (h3:Snd G g C N env names r e3 i3):Snd G g C N env names r (.Compare e1 [o1,o2] [e2,e3] pos) (.cmp2 c1 c2 i1 i2 i3):=fun loc hp Q X A s am h rm R=>by
  dsimp only [wE_cmp2] at h
  refine Compare_chain (wpAny_mono (chain2 GO h1 h2 h3 ho1 ho2 rm R h (W:=fun va vb s2=>wpAny (model G.prog G.w) A (compareOp o1 va vb) (fun c s₂=>wpAny (model G.prog G.w) A (truthy c)
      (fun t s₃=>if t then wpAny (model G.prog G.w) A (compareChain pos vb [o2] [eval e3 env]) (EvP G s am Q) XN s₃ else EvP G s am Q c s₃) XN s₂) XN s2) fun va vb s2 z=>?_) (fun va s1 z=>chain_link z) fun zz zz z=>z) hm
  refine wpAny_mono z (fun c s3 y=>?_) fun zz zz y=>y
  rcases y with ⟨rfl,y⟩ | ⟨rfl,y⟩
  · exact wpAny_truthy_bool y
  · exact wpAny_truthy_bool (chain_last y)
theorem snd_not {e:PySem.Expr} {i:Mine.E} {pos:Pos} (h1:Snd G g C N env names r e i):Snd G g C N env names r (.UnaryOp .Not e pos) (.not_ i):=fun loc hp Q X A s am h rm R=>by
  dsimp only [wE_not_] at h
  refine UnaryOp_ (wpAny_mono (h1 loc hp _ X A s am h rm R) (fun v s1 z=>?_) fun zz zz z=>z)
  obtain ⟨c,p3,am3,z1,z2,z3,z4,z5⟩:=z
  cases z2 with
  | bool b=>
    simp only [isB,onSome_some] at z1
    exact not_of (wpAny_truthy_bool (EvP.back z4 (evp_here (v:=.bool (!b)) z1 (.bool _) z3 rfl z5)))
  | _=>exact z1.elim
theorem sndT_not {e:PySem.Expr} {i:Mine.E} {pos:Pos} (h1:SndT G g C N env names r e i):SndT G g C N env names r (.UnaryOp .Not e pos) (.not_ i):=fun loc hp Q X A s am whole h rm R zz=>by
  dsimp only [wE_not_] at h
  refine isTrue_not (wpAny_mono (h1 loc hp (fun b h=>Q (!b) h) X A s am _ ?_ rm R rfl) (fun b s1 ⟨p,am1,z1,z2,z3,z4⟩=>⟨p,am1,z1,z2,z3,z4⟩) fun zz zz z=>z)
  have:(fun v h1=>onSome (isB v) fun b=>onSome (isB (V.bool !b)) fun b=>Q b h1) = (fun v h1=>onSome (isB v) fun b=>Q (!b) h1):=by
    funext v h1; cases v <;> rfl
  rw [this] at h; exact h
theorem sndT_plain {e:PySem.Expr} {i:Mine.E} (he:∀ whole,isTrue e env whole = (do let v ← whole; standAt e.pos; holding [v] (truthy v))) (h1:Snd G g C N env names r e i):SndT G g C N env names r e i:=fun loc hp Q X A s am whole h rm R hw=>by
  subst hw
  refine isTrue_plain (wpAny_mono (h1 loc hp _ X A s am h rm R) (fun v s1 z=>?_) fun zz zz z=>z) (he _)
  obtain ⟨c,p3,am3,z1,z2,z3,z4,z5⟩:=z
  cases z2 with
  | bool b=>
    simp only [isB,onSome_some] at z1
    exact wpAny_truthy_bool (EvPb.back z4 (evpb_here z1 z3 rfl z5))
  | _=>exact z1.elim
theorem snd_one {op:BoolOp} {e:PySem.Expr} {i:Mine.E} {pos:Pos} (h1:Snd G g C N env names r e i):Snd G g C N env names r (.BoolOp op [e] pos) i:=fun loc hp Q X A s am h rm R=>BoolOp_one (h1 loc hp Q X A s am h rm R)
theorem snd_and {e e2:PySem.Expr} {rest:List PySem.Expr} {i i2:Mine.E} {pos:Pos} (h1:Snd G g C N env names r e i) (h2:Snd G g C N env names r (.BoolOp .And (e2 :: rest) pos) i2) :
    Snd G g C N env names r (.BoolOp .And (e :: e2 :: rest) pos) (.and_ i i2):=fun loc hp Q X A s am h rm R=>by
  dsimp only [wE_and_] at h
  refine BoolOp_and (wpAny_mono (h1 loc hp _ X A s am h rm R) (fun v s1 z=>?_) fun zz zz z=>z)
  obtain ⟨c,p3,am3,z1,z2,z3,z4,z5⟩:=z
  cases z2 with
  | bool b=>
    simp only [isB,onSome_some] at z1
    refine wpAny_truthy_bool ?_
    cases b with
    | false=>exact EvP.back z4 (evp_here (v:=.bool false) z1 (.bool _) z3 rfl z5)
    | true=>exact wpAny_mono (h2 loc p3 Q X A s1 am3 z1 rm (R.step z4 z3 z5)) (fun zz zz y=>y.back z4) fun zz zz y=>y
  | _=>exact z1.elim
theorem snd_or {e e2:PySem.Expr} {rest:List PySem.Expr} {i i2:Mine.E} {pos:Pos} (h1:Snd G g C N env names r e i) (h2:Snd G g C N env names r (.BoolOp .Or (e2 :: rest) pos) i2) :
    Snd G g C N env names r (.BoolOp .Or (e :: e2 :: rest) pos) (.or_ i i2):=fun loc hp Q X A s am h rm R=>by
  dsimp only [wE_or_] at h
  refine BoolOp_or (wpAny_mono (h1 loc hp _ X A s am h rm R) (fun v s1 z=>?_) fun zz zz z=>z)
  obtain ⟨c,p3,am3,z1,z2,z3,z4,z5⟩:=z
  cases z2 with
  | bool b=>
    simp only [isB,onSome_some] at z1
    refine wpAny_truthy_bool ?_
    cases b with
    | true=>exact EvP.back z4 (evp_here (v:=.bool true) z1 (.bool _) z3 rfl z5)
    | false=>exact wpAny_mono (h2 loc p3 Q X A s1 am3 z1 rm (R.step z4 z3 z5)) (fun zz zz y=>y.back z4) fun zz zz y=>y
  | _=>exact z1.elim
theorem sndT_one_and {e:PySem.Expr} {i:Mine.E} {pos:Pos} (h1:SndT G g C N env names r e i):SndT G g C N env names r (.BoolOp .And [e] pos) i:=fun loc hp Q X A s am whole h rm R zz=>by
  refine isTrue_and (wpAny_mono (h1 loc hp Q X A s am _ h rm R rfl) (fun b s1 z=>?_) fun zz zz z=>z)
  cases b with
  | false=>exact z
  | true=>exact isTrue_and_nil z
theorem sndT_one_or {e:PySem.Expr} {i:Mine.E} {pos:Pos} (h1:SndT G g C N env names r e i):SndT G g C N env names r (.BoolOp .Or [e] pos) i:=fun loc hp Q X A s am whole h rm R zz=>by
  refine isTrue_or (wpAny_mono (h1 loc hp Q X A s am _ h rm R rfl) (fun b s1 z=>?_) fun zz zz z=>z)
  cases b with
  | true=>exact z
  | false=>exact isTrue_or_nil z
theorem sndT_and {e e2:PySem.Expr} {rest:List PySem.Expr} {i i2:Mine.E} {pos:Pos} (h1:SndT G g C N env names r e i) (h2:SndT G g C N env names r (.BoolOp .And (e2 :: rest) pos) i2) :
    SndT G g C N env names r (.BoolOp .And (e :: e2 :: rest) pos) (.and_ i i2):=fun loc hp Q X A s am whole h rm R zz=>by
  dsimp only [wE_and_] at h
  refine isTrue_and (wpAny_mono (h1 loc hp (fun b h1=>match b with | true=>wpE g C N loc i2 h1 (fun v h=>onSome (isB v) fun b=>Q b h) X | false=>onSome (isB (V.bool false)) fun b=>Q b h1) X A s am _ h rm R rfl) (fun b s1 z=>?_) fun zz zz z=>z)
  obtain ⟨p3,am3,z1,z3,z4,z5⟩:=z
  cases b with
  | false=>exact EvPb.back z4 (evpb_here z1 z3 rfl z5)
  | true=>exact wpAny_mono (h2 loc p3 Q X A s1 am3 (eval (.BoolOp .And (e2 :: rest) pos) env) z1 rm (R.step z4 z3 z5) rfl) (fun zz zz y=>y.back z4) fun zz zz y=>y
theorem sndT_or {e e2:PySem.Expr} {rest:List PySem.Expr} {i i2:Mine.E} {pos:Pos} (h1:SndT G g C N env names r e i) (h2:SndT G g C N env names r (.BoolOp .Or (e2 :: rest) pos) i2) :
    SndT G g C N env names r (.BoolOp .Or (e :: e2 :: rest) pos) (.or_ i i2):=fun loc hp Q X A s am whole h rm R zz=>by
  dsimp only [wE_or_] at h
  refine isTrue_or (wpAny_mono (h1 loc hp (fun b h1=>match b with | true=>onSome (isB (V.bool true)) fun b=>Q b h1 | false=>wpE g C N loc i2 h1 (fun v h=>onSome (isB v) fun b=>Q b h) X) X A s am _ h rm R rfl) (fun b s1 z=>?_) fun zz zz z=>z)
  obtain ⟨p3,am3,z1,z3,z4,z5⟩:=z
  cases b with
  | true=>exact EvPb.back z4 (evpb_here z1 z3 rfl z5)
  | false=>exact wpAny_mono (h2 loc p3 Q X A s1 am3 (eval (.BoolOp .Or (e2 :: rest) pos) env) z1 rm (R.step z4 z3 z5) rfl) (fun zz zz y=>y.back z4) fun zz zz y=>y
end
end Mine
end
noncomputable section
namespace Mine
open PySem PySem.W PyProof.Rows
theorem starEach_cons {e:PySem.Expr} (h:notStar e = true) (es:List PySem.Expr) (env:Env):starEach (e :: es) env = (false,eval e env) :: starEach es env:=by
  cases e <;> first | rfl | cases h
theorem subscripted_plain {e:PySem.Expr} (h:notSlice e = true) (o i:Value):subscripted e false o i = operate [o,i] (getItem o i):=by
  cases e <;> first | rfl | cases h
section
variable {G:Glb} {g:Genv} {C N:Oracle} {env:Env} {names:List (Str × NameKind)} {r:Nat}
noncomputable def SndEs (G:Glb) (g:Genv) (C N:Oracle) (env:Env) (names:List (Str × NameKind)) (r:Nat) (es:List PySem.Expr) (is:List Mine.E):Prop:=
  ∀ (pos:Pos) (loc:Locs) (hp:Hp) (Q:List V → Hp → Prop) (X:Nat → Hp → Prop) (A:Around) (s:Shared) (am:AM),
    wpEs g C N loc is hp Q X → Room X A r → Rel G env names s am loc hp → wpAny (model G.prog G.w) A (spliced (backTo pos (starEach es env))) (fun vals s'=>vals.length = es.length ∧ EvPs G s am Q vals s') XN s
theorem sndEs_nil:SndEs G g C N env names r [] []:=fun pos loc hp Q X A s am h rm R=>
  Calls.spliced_nil ⟨rfl,[],hp,am,h,.nil,R.hr,Aft.refl _ _ _,R.same⟩
theorem sndEs_cons {e:PySem.Expr} {i:Mine.E} {es:List PySem.Expr} {is:List Mine.E} (hn:notStar e = true) (h1:Snd G g C N env names r e i) (h2:SndEs G g C N env names r es is) :
    SndEs G g C N env names r (e :: es) (i :: is):=fun pos loc hp Q X A s am h rm R=>by
  dsimp only [wEs_nil,wEs_cons] at h
  rw [starEach_cons hn]
  refine Calls.spliced_cons (wpAny_mono (h1 loc hp _ X A s am h rm R) (fun v s1 z=>?_) fun zz zz z=>z)
  obtain ⟨c,p1,am1,z1,z2,z3,z4,z5⟩:=z
  refine wpAny_mono (h2 pos loc p1 _ X A s1 am1 z1 rm (R.step z4 z3 z5)) (fun vs s2 y=>?_) fun zz zz y=>y
  obtain ⟨yl,cs,p2,am2,y1,y2,y3,y4,y5⟩:=y
  exact ⟨by simp [yl],c :: cs,p2,am2,y1,.cons (y4.rv z2) y2,y3,z4.trans y4,y5⟩
theorem newTuple_ {M : Model} {A : Around} {E : Value → Shared → Prop} {s : Shared} {vs : List Value} {Q : Value → Shared → Prop} (h : Q (.ref s.heap.objs.size) { s with heap := s.heap.push { cls := .type "tuple", data := .seq vs.toArray } }) (hz : vs.length ≤ lim) :
    wpAny M A (newTuple vs) Q E s:=wpAny_newObj_type h (by show vs.toArray.size ≤ sizeLine; rw [List.size_toArray,sizeLine]; simp only [lim] at hz; (first | lia | omega))
theorem newList_ {M : Model} {A : Around} {E : Value → Shared → Prop} {s : Shared} {vs : List Value} {Q : Value → Shared → Prop} (h : Q (.ref s.heap.objs.size) { s with heap := s.heap.push { cls := .type "list", data := .seq vs.toArray } }) (hz : vs.length ≤ lim) :
    wpAny M A (newList vs) Q E s:=wpAny_newObj_type h (by show vs.toArray.size ≤ sizeLine; rw [List.size_toArray,sizeLine]; simp only [lim] at hz; (first | lia | omega))
theorem evp_new_tup {s:Shared} {am:AM} {hp:Hp} {Q:V → Hp → Prop} {xs:List V} {vs:List Value} (x:HR G am s.heap hp) (sm:Same G s) (rv:RVs G.ws am s.heap xs vs) (l:xs.length ≤ lim) (q:Q (.tup xs) hp) {items:Array Value} (hi:items = vs.toArray) :
    EvP G s am Q (.ref s.heap.objs.size) { s with heap := s.heap.push { cls := .type "tuple", data := .seq items } } := by
  subst hi
  have k := keep_push (h := s.heap) ({ cls := .type "tuple", data := .seq vs.toArray } : Obj)
  exact ⟨.tup xs,hp,am,q,.tup ⟨_,Heap.get?_push_size _ rfl,rfl,_,rfl⟩ (rv.mono (TupKept.push _) (fun zz zz e=>e)) l,x.keepAll k,Aft.ofKeep k,sm.heap _⟩
theorem snd_tup {es:List PySem.Expr} {is:List Mine.E} {k:Nat} {pos:Pos} (hl:es.length ≤ lim) (h1:SndEs G g C N env names r es is):Snd G g C N env names r (.Tuple es k pos) (.tup is):=fun loc hp Q X A s am h rm R=>by
  dsimp only [wE_tup] at h
  refine Tuple_ (wpAny_mono (h1 pos loc hp _ X A s am h rm R) (fun vals s1 z=>?_) fun zz zz z=>z)
  obtain ⟨zl,c,p1,am1,z1,z2,z3,z4,z5⟩:=z
  exact newTuple_ (EvP.back z4 (evp_new_tup z3 z5 z2 (by rw [z2.length,zl]; exact hl) z1 rfl)) (by rw [zl]; exact hl)
theorem snd_lst {es:List PySem.Expr} {is:List Mine.E} {pos:Pos} (hl:es.length ≤ lim) (h1:SndEs G g C N env names r es is):Snd G g C N env names r (.List es pos) (.lst is):=fun loc hp Q X A s am h rm R=>by
  dsimp only [wE_lst] at h
  refine List_ (wpAny_mono (h1 pos loc hp _ X A s am h rm R) (fun vals s1 z=>?_) fun zz zz z=>z)
  obtain ⟨zl,c,p1,am1,z1,z2,z3,z4,z5⟩:=z
  exact newList_ (EvP.back z4 (evp_new_list z3 z5 z2 (by rw [z2.length,zl]; exact hl) z1 rfl)) (by rw [zl]; exact hl)
theorem seqAt_index {xs:List V} {i:Int} {v:V} (e:seqAt xs i = some v):∃ j,seqIndex? i xs.length = some j ∧ xs[j]? = some v ∧ -(xs.length:Int) ≤ i ∧ i < xs.length:=by
  unfold seqAt at e
  split at e
  · rename_i h0
    have hl:i.toNat < xs.length:=by obtain ⟨z,_⟩:=List.getElem?_eq_some_iff.mp e; exact z
    exact ⟨i.toNat,by unfold seqIndex?; simp; (first | lia | omega),e,by (first | lia | omega),by (first | lia | omega)⟩
  · split at e
    · rename_i h0 h1
      exact ⟨((xs.length:Int) + i).toNat,by unfold seqIndex?; simp; (first | lia | omega),e,by (first | lia | omega),by (first | lia | omega)⟩
    · cases e
theorem idx_list {s : Shared} {A : Around} {E : Value → Shared → Prop} {T : Value → Shared → Prop} {a : Addr} {ob : Obj} {vs : List Value} {n : Nat} {xs : List V} {am : AM} {i : Int} {u : Tok} {v : V} (h1 : s.heap.get? a = some ob) (h2 : ob.cls = .type "list") (h3 : ob.data = .seq vs.toArray n)
    (h4:RVs G.ws am s.heap xs vs) (hl:xs.length ≤ lim) (e:seqAt xs i = some v) (h:∀ x,RV G.ws am s.heap v x → T x s):wpAny (model G.prog G.w) A (getItem (.ref a) (.int i u)) T E s:=by
  obtain ⟨j,e1,e2,e3,e4⟩:=seqAt_index e
  obtain ⟨x,x1,x2⟩:=h4.get e2
  have ln:=h4.length
  simp only [lim] at hl
  by_cases h0:0 ≤ i
  · have ej:j = i.toNat:=by unfold seqIndex? at e1; simp at e1; (first | lia | omega)
    exact wpAny_getItem_list ⟨ob,h1,h2,n,h3⟩ h0 (by (first | lia | omega)) (by rw [← ej]; simpa using x1) (h x x2)
  · have ej:j = (i + (vs.toArray.size:Int)).toNat:=by unfold seqIndex? at e1; simp at e1; rw [List.size_toArray,← ln]; (first | lia | omega)
    exact wpAny_getItem_list_neg ⟨ob,h1,h2,n,h3⟩ (by (first | lia | omega)) (by rw [List.size_toArray,← ln]; (first | lia | omega)) (by (first | lia | omega)) (by rw [← ej]; simpa using x1) (h x x2)
set_option tactic.hygienic true in
theorem RE.find {am:AM} {h:Heap} (GO:GOk G) {k:Nat} {x:Str} (hk:G.ws[k]? = some x) {fs:List (Nat × V)} {es:List DictEntry} {v:V} (r:RE G am h fs es) (e:getK fs k = some v):∃ e,es.find? (fun e=>e.key.isStr x) = some e ∧ RV G.ws am h v e.val:=by
  induction r with
  | nil=>cases e
  | cons hj rv r ih=>
    rename_i j y t u val fs es
    have q:=word_eq GO hj hk
    change (if j = k then some u else getK fs k) = some v at e
    by_cases hjk:j = k
    · rw [if_pos hjk] at e
      cases e
      have:y = x:=q.mpr hjk
      subst this
      exact ⟨_,List.find?_cons_of_pos (by simp [Value.isStr]),rv⟩
    · rw [if_neg hjk] at e
      obtain ⟨en,e1,e2⟩:=ih e
      refine ⟨en,?_,e2⟩
      rw [List.find?_cons_of_neg]; exact e1
      have:¬ y = x:=fun z=>hjk (q.mp z)
      simpa [Value.isStr] using this
set_option tactic.hygienic true in
theorem RE.miss {am:AM} {h:Heap} (GO:GOk G) {k:Nat} {x:Str} (hk:G.ws[k]? = some x) {fs:List (Nat × V)} {es:List DictEntry} (r:RE G am h fs es) (e:getK fs k = none):es.find? (fun e=>e.key.isStr x) = none:=by
  induction r with
  | nil=>rfl
  | cons hj rv r ih=>
    rename_i j y t u val fs es
    have q:=word_eq GO hj hk
    change (if j = k then some u else getK fs k) = none at e
    by_cases hjk:j = k
    · rw [if_pos hjk] at e; cases e
    · rw [if_neg hjk] at e
      rw [List.find?_cons_of_neg]; exact ih e
      have:¬ y = x:=fun z=>hjk (q.mp z)
      simpa [Value.isStr] using this
theorem RE.noRef {am:AM} {h:Heap} {fs:List (Nat × V)} {es:List DictEntry} (r:RE G am h fs es):es.any (·.refKey) = false:=by
  induction r with
  | nil=>rfl
  | cons hj rv r ih=>simp only [List.any_cons,ih,Bool.or_false]; rfl
theorem snd_idx (GO:GOk G) {e1 e2:PySem.Expr} {i1 i2:Mine.E} {pos:Pos} (hs:notSlice e2 = true) (h1:Snd G g C N env names r e1 i1) (h2:Snd G g C N env names r e2 i2):Snd G g C N env names r (.Subscript e1 e2 pos) (.idx i1 i2):=fun loc hp Q X A s am h rm R=>by
  dsimp only [wE_idx] at h
  refine Subscript_ (ev_two h1 h2 h rm R fun a b p1 p2 va vb s2 am2 k ra rb R2 a2=>?_)
  cases e:idxop a b p2 with
  | none=>rw [e] at k; exact k.elim
  | some v=>
    rw [e,onSome_some] at k
    have fin:∀ x,RV G.ws am2 s2.heap v x → EvP G s am Q x s2:=fun x rx=>EvP.back a2 (evp_here k rx R2.hr rfl R2.same)
    change (match a.asTup with | some xs=>b.asInt.bind (seqAt xs) | none=>a.asRef.bind fun r=>(p2[r]?).bind fun o=>idxO o b) = some v at e
    cases ht:a.asTup with
    | some xs=>
      rw [ht] at e
      obtain ⟨n,hb,e⟩:=bind_some e
      rw [asTup_some ht] at ra
      rw [asInt_some hb] at rb
      cases ra with
      | tup i rs l=>cases rb with
        | int n u=>
          obtain ⟨j,e1,e2,e3,e4⟩:=seqAt_index e
          obtain ⟨x,x1,x2⟩:=rs.get e2
          have ln:=rs.length
          simp only [lim] at l
          exact item_tupleT i (by (first | lia | omega)) (by (first | lia | omega)) (by rw [← ln]; exact e1) x1 (fin x x2) (subscripted_plain hs _ _)
    | none=>
      rw [ht] at e
      obtain ⟨ad,hr,e⟩:=bind_some e
      obtain ⟨o,hx,e⟩:=bind_some e
      rw [asRef_some hr] at ra
      change (match o.items with | some xs=>b.asInt.bind (seqAt xs) | none=>none) = some v at e
      cases ra with
      | ref m=>
        cases hi:o.items with
        | some xs=>
          rw [hi] at e
          obtain ⟨n,hb,e⟩:=bind_some e
          rw [asInt_some hb] at rb
          cases rb with
          | int n u=>
            obtain ⟨vs,n',ob,g1,g2,g3,g4,g5⟩:=R2.hr.items hx hi m
            exact tail_any (T := "list") ⟨ob, g1, g2⟩ slot_list_getitem.lookup (idx_list g1 g2 g3 g4 g5 e fin) (subscripted_plain hs _ _)
        | none=>rw [hi] at e; cases e
end
end Mine
end
noncomputable section
namespace Mine
open PySem PySem.W PyProof.Rows
structure GG (G:Glb) (g:Genv):Prop where
  ok:GOk G
  at_:G.at_ = g.at_
  glob:∃ mg,G.base.Ns mainGlobals mg
  bi : ∃ mb, G.base.Ns builtinsNs mb ∧ ∀ x : Str, x ≠ "__name__" → mb x = bootBuiltins x
  fnKeep:∀ f a,G.fnA f = some a → keepIn G.K (.ref a) = true
  cls:∀ c C,G.cls c = some C → clsOk G.K C = true
  attrs:∀ c C f x,G.cls c = some C → g.at_ c f = true → G.ws[f]? = some x → findIn G.K (.ref C) x = some none
  meths:∀ c C m x fid,G.cls c = some C → g.meth c m = some fid → G.ws[m]? = some x → g.at_ c m = false ∧ ∃ fa,G.fnA fid = some fa ∧ findIn G.K (.ref C) x = some (some (.ref fa)) ∧ isFn G.K (.ref fa) = true
  init : ∀ c fid, g.init c = some fid → ∃ C fa, G.cls c = some C ∧ G.fnA fid = some fa ∧ findIn G.K (.ref C) "__init__" = some (some (.ref fa)) ∧ isFn G.K (.ref fa) = true
  app : G.ws[mAppend]? = some "append"
  pop : G.ws[mPop]? = some "pop"
noncomputable def CallOk (G:Glb) (C:Oracle) (r:Nat):Prop:=∀ (f:Nat) (a:Addr) (vs:List V) (hp:Hp) (Q:V → Hp → Prop) (X:Nat → Hp → Prop) (A:Around) (s:Shared) (am:AM) (vals:List Value),G.fnA f = some a → C f vs hp Q X → RoomC X A r → G.base.objs.size ≤ s.heap.objs.size →
  HR G am s.heap hp → Same G s → RVs G.ws am s.heap vs vals →
  codeAny (model G.prog G.w) A (.call (.ref a) ⟨vals,[]⟩) (fun res s'=>match res with | .ok (.ret val)=>EvP G s am Q val s' | .ok _=>False | .error e=>XN e s') s
section
variable {M:Model} {A:Around} {E:Value → Shared → Prop} {s:Shared} {env:Env} {pos:Pos} {f:Value} {first:List Value} {Q:Value → Shared → Prop}
theorem backTo_all (pos:Pos) (env:Env):∀ {es:List PySem.Expr},es.all notStar = true → (backTo pos (starEach es env)).any (·.1) = false
  | [],_=>rfl
  | e :: es,h=>by
    simp only [List.all_cons,Bool.and_eq_true] at h
    rw [starEach_cons h.1]
    show (false || (backTo pos (starEach es env)).any (·.1)) = false
    rw [backTo_all pos env h.2]; rfl
theorem callWith_es {P:Heap → Prop} {es:List PySem.Expr} (hn:es.all notStar = true) (hk:∀ h,P h → ∃ k,(k = Keeper.frame ∨ k = Keeper.machine ∨ k = Keeper.boundFrame) ∧ Looks M h (keeperOf f) k)
    (h:wpAny M A (spliced (backTo pos (starEach es env))) (fun vs s₁=>P s₁.heap ∧ wpAny M A (call f (first ++ vs)) Q E s₁) E s):wpAny M A (callWith pos f first (backTo pos (starEach es env)) []) Q E s:=by
  refine callWith_of (by rw [backTo_all pos env hn]; rfl) hk ?_
  cases es with
  | nil=>
    have h':wpAny M A (spliced []) (fun vs s₁=>P s₁.heap ∧ wpAny M A (call f (first ++ vs)) Q E s₁) E s:=h
    exact fun Γ p hΓ=>evalArgs_nil3 (h' Γ p hΓ) Γ p hΓ
  | cons e es=>
    simp only [List.all_cons,Bool.and_eq_true] at hn
    rw [starEach_cons hn.1] at h ⊢
    exact Calls.evalArgs_plain h
theorem keeper_builtin {id:String} {h:Heap}:∃ k,(k = Keeper.frame ∨ k = Keeper.machine ∨ k = Keeper.boundFrame) ∧ Looks M h (keeperOf (.builtin id)) k:=⟨.machine,.inr (.inl rfl),Looks.of_pure rfl⟩
theorem keeper_type {id:String} {h:Heap}:∃ k,(k = Keeper.frame ∨ k = Keeper.machine ∨ k = Keeper.boundFrame) ∧ Looks M h (keeperOf (.type id)) k:=⟨.machine,.inr (.inl rfl),Looks.of_pure rfl⟩
end
theorem attributeBase_plain {o:PySem.Expr} (h:notCall o = true) (name:Str) (env:Env) (whole:Sem Value):attributeBase o name env whole = whole:=by
  cases o <;> first | rfl | cases h
theorem eval_Attribute_plain {o:PySem.Expr} (h:notCall o = true) (name:Str) (pos:Pos) (env:Env):eval (.Attribute o name pos) env = (do
      let v ← eval o env
      standAt pos.atName
      let r ← holding [v] (getAttr v name true)
      letTemporaryGo o v r
      pure r):=by
  show (attributeBase o name env (eval o env) >>= _) = _
  rw [attributeBase_plain h]
section
variable {G:Glb} {g:Genv} {C N:Oracle} {env:Env} {names:List (Str × NameKind)} {r:Nat}
theorem snd_global (GK : GG G g) (O : EnvOk env names) {A : Around} {E : Value → Shared → Prop} {s : Shared} {am : AM} {loc : Locs} {hp : Hp} {x : Str} {v : Value} {pos : Pos} {T : Value → Shared → Prop} (R : Rel G env names s am loc hp) (hk : env.kindOf x = some .globalImplicit) (hd : (x == ("__debug__" : Str)) = false)
    (e:nsIn G.K mainGlobals x = some (some v)) (h:T v s):wpAny (model G.prog G.w) A (eval (.Name x pos) env) T E s:=by
  obtain ⟨mg,hg⟩:=GK.glob
  refine Calls.Name_function_global O.kind hk (Calls.loadGlobal_global (mg:=mg) ?_ (mg_of GK.ok.x hg e) h) hd
  rw [O.glob]; exact hg.keeps R.hr.base
theorem snd_builtin (GK : GG G g) (O : EnvOk env names) {A : Around} {E : Value → Shared → Prop} {s : Shared} {am : AM} {loc : Locs} {hp : Hp} {x : Str} {v : Value} {pos : Pos} {T : Value → Shared → Prop} (R : Rel G env names s am loc hp) (hk : env.kindOf x = some .globalImplicit) (hd : (x == ("__debug__" : Str)) = false)
    (e : nsIn G.K mainGlobals x = some none) (hv : bootBuiltins x = some v) (hn : x ≠ "__name__") (h : T v s) : wpAny (model G.prog G.w) A (eval (.Name x pos) env) T E s := by
  obtain ⟨mg,hg⟩:=GK.glob
  obtain ⟨mb,hb,hb'⟩:=GK.bi
  refine Calls.Name_function_global O.kind hk (Calls.loadGlobal_builtin (mg:=mg) (mb:=mb) ?_ (mg_none_of GK.ok.x hg e) ?_ ((hb' x hn).trans hv) h) hd
  · rw [O.glob]; exact hg.keeps R.hr.base
  · rw [O.bi]; exact hb.keeps R.hr.base
theorem eval_Call_plain {fe:PySem.Expr} (hf:∃ x p,fe = .Name x p) (args:List PySem.Expr) (pos:Pos) (env:Env):eval (.Call fe args [] pos) env = (do callWith pos (← eval fe env) [] (backTo pos (starEach args env)) []):=by
  obtain ⟨x,p,rfl⟩:=hf; rfl
theorem call_name {A:Around} {s:Shared} {am:AM} {loc:Locs} {hp:Hp} {X:Nat → Hp → Prop} {x:Str} {p pos:Pos} {es:List PySem.Expr} {is:List Mine.E} {f:Value} {K:List V → Hp → Prop} {T:Value → Shared → Prop} (R:Rel G env names s am loc hp) (rm:Room X A r)
    (hn:es.all notStar = true) (hk:∀ h,(∀ b o,G.base.get? b = some o → h.get? b = some o) → ∃ k,(k = Keeper.frame ∨ k = Keeper.machine ∨ k = Keeper.boundFrame) ∧ Looks (model G.prog G.w) h (keeperOf f) k)
    (hname:∀ (U:Value → Shared → Prop),U f s → wpAny (model G.prog G.w) A (eval (.Name x p) env) U XN s)
    (h1:SndEs G g C N env names r es is) (h:wpEs g C N loc is hp K X)
    (fin:∀ vs vals p1 s1 am1,K vs p1 → RVs G.ws am1 s1.heap vs vals → Rel G env names s1 am1 loc p1 → Aft [] s.heap am s1.heap am1 → vals.length = es.length → wpAny (model G.prog G.w) A (call f vals) T XN s1) :
    wpAny (model G.prog G.w) A (eval (.Call (.Name x p) es [] pos) env) T XN s:=by
  rw [eval_Call_plain ⟨x,p,rfl⟩]
  refine wpAny_bind (hname _ ?_)
  refine callWith_es (P:=fun h=>∀ b o,G.base.get? b = some o → h.get? b = some o) hn hk (wpAny_mono (h1 pos loc hp K X A s am h rm R) (fun vals s1 z=>?_) fun zz zz z=>z)
  obtain ⟨zl,vs,p1,am1,z1,z2,z3,z4,z5⟩:=z
  exact ⟨z3.base,fin vs vals p1 s1 am1 z1 z2 (R.step z4 z3 z5) z4 zl⟩
theorem snd_call (GK : GG G g) (O : EnvOk env names) (HC : CallOk G C r) {x : Str} {p pos : Pos} {es : List PySem.Expr} {is : List Mine.E} {f : Nat} {a : Addr} (hk : env.kindOf x = some .globalImplicit) (hd : (x == ("__debug__" : Str)) = false) (hf : G.fnA f = some a)
    (e:nsIn G.K mainGlobals x = some (some (.ref a))) (hn:es.all notStar = true) (h1:SndEs G g C N env names r es is):Snd G g C N env names r (.Call (.Name x p) es [] pos) (.call f is):=fun loc hp Q X A s am h rm R=>by
  dsimp only [wE_call] at h
  refine call_name R rm hn (fun hh kb=>keeps_K (GK.fnKeep f a hf) hh (GK.ok.x.keeps kb)) (fun U u=>snd_global GK O R hk hd e u) h1 h fun vs vals p1 s1 am1 k rv R1 a1 zz=>?_
  refine wpAny_call (codeAny_mono (HC f a vs p1 Q X A s1 am1 vals hf k rm.c R1.size R1.hr R1.same rv) fun res s' z=>?_)
  rcases res with e | (_ | _ | _ | v)
  · exact z.back a1
  · exact z.elim
  · exact z.elim
  · exact z.elim
  · exact EvP.back a1 z
inductive InstP (G:Glb) (am:AM) (h:Heap) (c:Nat) (fs:List (Nat × V)) (p:Addr × Addr):Prop
  | mk (Ca:Addr) (es:List DictEntry) (n:Nat):G.cls c = some Ca → h.get? p.1 = some (instObj Ca p.2) → h.get? p.2 = some (dictOf es n) → RE G am h fs es → fs.length ≤ 500 → G.base.get? p.1 = none → G.base.get? p.2 = none → (∀ q ∈ fs,G.at_ c q.1 = true) → InstAt h p.1 (instObj Ca p.2) Ca (some (dictOf es n)) → InstP G am h c fs p
theorem instAt {am:AM} {h:Heap} {hp:Hp} {x:Nat} {c:Nat} {fs:List (Nat × V)} {p:Addr × Addr} (hr:HR G am h hp) (hx:hp[x]? = some (.inst c fs)) (hm:am[x]? = some p):InstP G am h c fs p:=by
  have o:=hr.objs x _ p hx hm
  cases o with
  | inst a b cc d e f i j=>exact ⟨_,_,_,a,b,cc,d,e,f,i,j,⟨b,rfl,rfl,cc⟩⟩
structure ClsP (K:Frag) (Ca:Addr):Prop where
  k1 : findIn K (.ref Ca) "__getattribute__" = some (some (.builtin "object.__getattribute__"))
  k1' : findIn K (.ref Ca) "__getattr__" = some none
  k2:hasDictIn K Ca = true
  k3:makesIn K Ca = true
  k4:plainOver K Ca = true
  k5 : findIn K (.ref Ca) "__setattr__" = some (some (.builtin "object.__setattr__"))
  k6:keepIn K (.ref Ca) = true
theorem clsOk_get {K:Frag} {Ca:Addr} (h:clsOk K Ca = true):ClsP K Ca:=by
  simp only [clsOk,Bool.and_eq_true,beq_iff_eq] at h
  exact ⟨(plainGet_of h.1.1.1.1.1).1,(plainGet_of h.1.1.1.1.1).2,h.1.1.1.1.2,h.1.1.1.2,h.1.1.2,h.1.2,h.2⟩
theorem rv_handed {am:AM} {h:Heap} {v:V} {x:Value} (r:RV G.ws am h v x):handedIn x = true:=by cases r <;> rfl
set_option tactic.hygienic true in
theorem snd_attr (GK:GG G g) {e:PySem.Expr} {i:Mine.E} {f:Nat} {x:Str} {pos:Pos} (hx:G.ws[f]? = some x) (hc:notCall e = true) (h1:Snd G g C N env names r e i):Snd G g C N env names r (.Attribute e x pos) (.attr i f):=fun loc hp Q X A s am h rm R=>by
  dsimp only [wE_attr] at h
  refine Attribute_any_ (wpAny_mono (h1 loc hp _ X A s am h rm R) (fun v s1 z=>?_) fun zz zz z=>z) (eval_Attribute_plain hc _ _ _)
  obtain ⟨c,p1,am1,z1,z2,z3,z4,z5⟩:=z
  cases z2 with
  | ref m=>
    dsimp only at z1
    split at z1
    · rename_i cl fs hfs
      obtain ⟨q1,q2⟩:=z1
      cases hg:getK fs f with
      | none=>rw [hg] at q2; exact q2.elim
      | some u=>
        rw [hg,onSome_some] at q2
        refine of_P fun P hP=>?_
        obtain ⟨Ca,es,n,i1,i2,i3,i4,i5,i6,i7,i8,I⟩:=instAt z3 hfs m
        obtain ⟨k1,k1',k2,k3,k4,k5,k6⟩:=clsOk_get (GK.cls _ _ i1)
        obtain ⟨en,f1,f2⟩:=i4.find GK.ok hx hg
        refine hP (get_value (K:=G.K) (GK.ok.x.keeps z3.base) I k1 (findObj_own (v:=en.val) k2 (GK.attrs _ _ f x i1 q1 hx) rfl ?_) (rv_handed f2) (EvP.back z4 (evp_here q2 f2 z3 rfl ⟨z5.gens,z5.os⟩)))
        rw [lookIn_dict]; unfold W.getL; rw [f1]
    · exact z1.elim
  | _=>exact z1.elim
end
end Mine
end
noncomputable section
namespace Mine
open PySem PySem.W PyProof.Rows
theorem backTo_all' (pos:Pos) (env:Env):∀ {es:List PySem.Expr},es.all notStar = true → (backTo pos (starEach es env)).all (fun x=>!x.1) = true
  | [],_=>rfl
  | e :: es,h=>by
    simp only [List.all_cons,Bool.and_eq_true] at h
    rw [starEach_cons h.1]
    show (true && (backTo pos (starEach es env)).all (fun x=>!x.1)) = true
    rw [backTo_all' pos env h.2]; rfl
theorem call_method {prog:Program} {w:World} {A:Around} {E:Value → Shared → Prop} {s:Shared} {env:Env} {o:PySem.Expr} {name:Str} {apos pos:Pos} {args:List PySem.Expr} {Q:Value → Shared → Prop} (hc:notCall o = true) (hn:args.all notStar = true) (hl:args.length < 30) (hline:(apos.endLine == pos.line) = true)
    (h:wpAny (model prog w) A (eval o env) (fun ov s₁=>∀ pl,wpAny (model prog w) A (getMethod ov name pl) (fun p s₂=>wpAny (model prog w) A (callWith pos p.1 p.2 (backTo pos (starEach args env)) []) Q E s₂) E s₁) E s) :
    wpAny (model prog w) A (eval (.Call (.Attribute o name apos) args [] pos) env) Q E s:=by
  rw [arm_eval_Call,attributeBase_plain hc]
  refine wpAny_bind (wpAny_mono h (fun ov s₁ h₁=>?_) fun zz zz e=>e)
  refine wpAny_bind (wpAny_standAt ?_)
  have hform:methodCallForm (args.length + ([]:List Keyword).length) (backTo pos (starEach args env)) (backToKw pos (keywordEach [] env)) = true:=by
    unfold methodCallForm
    rw [backTo_all' pos env hn]
    show (true && true && decide (args.length + 0 + 0 < 30)) = true
    simp [hl]
  have hpos:methodCallPos true o env apos pos = pure pos:=by unfold methodCallPos; simp [hline]
  unfold methodCall
  rw [hform]
  refine wpAny_bind (wpAny_holding ?_)
  show wpAny _ _ (getMethod ov name _) _ _ _
  refine wpAny_mono (h₁ _) (fun p s₂ h₂=>?_) fun zz zz x=>x
  exact wpAny_bind (wpAny_of_eq hpos h₂)
section
variable {G:Glb} {g:Genv} {C N:Oracle} {env:Env} {names:List (Str × NameKind)} {r:Nat}
theorem listObj_update {h:Heap} {x:Addr} {vs:List Value} {n:Nat} (hx:h.get? x = some (listObj vs n)) (f:Array Value → Array Value) {us:List Value} (e:f vs.toArray = us.toArray):∃ n',(h.update x (Obj.mapSeq f)).get? x = some (listObj us n'):=by
  have:=IsL.update (h:=h) (l:=x) (items:=vs.toArray) (n:=n) hx f
  rw [e] at this
  exact ⟨_,this⟩
set_option tactic.hygienic true in
theorem HR.turnList {am:AM} {h:Heap} {hp:Hp} (x:HR G am h hp) {i:Nat} {p:Addr × Addr} {xs ys:List V} {us:List Value} {n':Nat} {f:Obj → Obj} (hi:hp[i]? = some (.list xs)) (hm:am[i]? = some p) (hu:(h.update p.1 f).get? p.1 = some (listObj us n')) (rv:RVs G.ws am h ys us) (hl:ys.length ≤ lim) :
    HR G am (h.update p.1 f) (hp.set i (.list ys)) ∧ Aft [] h am (h.update p.1 f) am:=by
  have o:=x.objs _ _ _ hi hm
  cases o with
  | list g1 g2 g3 g4=>
    rename_i a vs n
    have sb:Heap.SameBut a h (h.update a f):=Heap.SameBut.update ..
    have tk:TupKept h (h.update a f):=TupKept.turn sb g1 (by simp)
    refine ⟨x.turn hi hm sb tk g4 (x.first g1 (by intro C dx e; cases e)) (.list hu (rv.mono tk fun zz zz e=>e) hl g4),Aft.turn (p:=(a,a)) (List.mem_of_getElem? hm) sb tk (by dsimp only; rw [hu]; rfl)⟩
theorem getK_mem:∀ {fs:List (Nat × V)} {m:Nat} {u:V},getK fs m = some u → ∃ w,(m,w) ∈ fs
  | [],_,_,q=>nomatch q
  | (j,w) :: ys,m,u,q=>by
    by_cases e:j = m
    · exact ⟨w,e ▸ .head _⟩
    · obtain ⟨w',hw'⟩:=getK_mem (fs:=ys) (u:=u) ((if_neg e).symm.trans (show (if j = m then some w else getK ys m) = some u from q))
      exact ⟨w',.tail _ hw'⟩
set_option tactic.hygienic true in
theorem snd_meth (GK:GG G g) (HC:CallOk G C r) {e:PySem.Expr} {i:Mine.E} {m:Nat} {x:Str} {apos pos:Pos} {es:List PySem.Expr} {is:List Mine.E} (hx:G.ws[m]? = some x) (hc:notCall e = true) (hn:es.all notStar = true) (hl:es.length < 30) (hline:(apos.endLine == pos.line) = true)
    (h1:Snd G g C N env names r e i) (h2:SndEs G g C N env names r es is) (his:is.length = es.length):Snd G g C N env names r (.Call (.Attribute e x apos) es [] pos) (.meth i m is):=fun loc hp Q X A s am h rm R=>by
  dsimp only [wE_meth] at h
  refine call_method hc hn hl hline (wpAny_mono (h1 loc hp _ X A s am h rm R) (fun v s1 z=>?_) fun zz zz z=>z)
  obtain ⟨c,p1,am1,z1,z2,z3,z4,z5⟩:=z
  have R1:=R.step z4 z3 z5
  intro pl
  cases z2 with
  | ref hm=>
    dsimp only at z1
    rename_i a0 p0
    cases hfs:p1[a0]? with
    | none=>rw [hfs] at z1; exact z1.elim
    | some ob=>
    rw [hfs] at z1
    cases ob with
    | inst cl fs=>
      dsimp only at z1
      cases hg:g.meth cl m with
      | none=>rw [hg] at z1; exact z1.elim
      | some f=>
        rw [hg,onSome_some] at z1
        refine of_P fun P hP=>?_
        obtain ⟨Ca,en,n,i1,i2,i3,i4,i5,i6,i7,i8,I⟩:=instAt z3 hfs hm
        obtain ⟨k1,k1',k2,k3,k4,k5,k6⟩:=clsOk_get (GK.cls _ _ i1)
        obtain ⟨na,fa,m1,m2,m3⟩:=GK.meths _ _ m x f i1 hg hx
        have miss:getK fs m = none:=by
          cases q:getK fs m with
          | none=>rfl
          | some u=>
            obtain ⟨w,hw⟩:=getK_mem q
            have:=i8 _ hw
            rw [GK.at_] at this
            rw [na] at this; cases this
        refine hP (method_fn (K:=G.K) (GK.ok.x.keeps z3.base) I k1 k1' m2 (beq_iff_eq.mp m3) ?_ ?_)
        · show (lookIn x (dictOf en n)).map _ = _
          rw [lookIn_dict]; unfold W.getL; rw [i4.miss GK.ok hx miss,i4.noRef]; rfl
        · refine callWith_es (P:=fun h=>∀ b o,G.base.get? b = some o → h.get? b = some o) hn (fun hh kb=>keeps_K (GK.fnKeep f fa m1) hh (GK.ok.x.keeps kb)) (wpAny_mono (h2 pos loc p1 _ X A s1 am1 z1 rm R1) (fun vals s2 y=>?_) fun zz zz y=>y)
          obtain ⟨yl,vs,p2,am2,y1,y2,y3,y4,y5⟩:=y
          refine ⟨y3.base,wpAny_call (codeAny_mono (HC f fa _ p2 Q X A s2 am2 _ m1 y1 rm.c (R1.step y4 y3 y5).size y3 y5 (.cons (.ref (y4.map _ _ hm)) y2)) fun res s' w=>?_)⟩
          rcases res with e | (_ | _ | _ | v)
          · exact w.back (z4.trans y4)
          · exact w.elim
          · exact w.elim
          · exact w.elim
          · exact EvP.back (z4.trans y4) w
    | list xs0=>
      dsimp only at z1
      have hx0:=hfs
      have o:=z3.objs _ _ _ hx0 hm
      cases o with
      | list g1 g2 g3 g4=>
        rename_i a vs0 n0
        have ga : ∀ (nm : Str) (id : String), Slot "list" nm id → typeOf (.builtin id) = pure (.type "method_descriptor") → x = nm → ∀ T : Value × List Value → Shared → Prop, T (.builtin id, [.ref a]) s1 → wpAny (model G.prog G.w) A (getMethod (.ref a) x pl) T XN s1 := by
          intro nm id sl ty e T t
          subst e
          exact getMethod_builtin ⟨_,g1,rfl⟩ F.plainAttrs_list sl ty (fun a' e=>by cases e; exact ⟨_,g1,rfl⟩) t
        have hk:∀ (id:String) (h:Heap),(∀ b o,G.base.get? b = some o → h.get? b = some o) → ∃ k,(k = Keeper.frame ∨ k = Keeper.machine ∨ k = Keeper.boundFrame) ∧ Looks (model G.prog G.w) h (keeperOf (.builtin id)) k:=fun id h zz=>keeper_builtin
        cases hemp:is.isEmpty with
        | true=>
          rw [hemp] at z1
          obtain ⟨q1,q2⟩:=z1
          subst q1
          have hes:es = []:=by
            have:is = []:=by simpa using hemp
            rw [this] at his; exact List.length_eq_zero_iff.mp his.symm
          subst hes
          cases hlast:xs0.getLast? with
          | none=>rw [hlast] at q2; exact q2.elim
          | some u=>
            rw [hlast,onSome_some] at q2
            refine ga "pop" "list.pop" F.slot_list_pop F.type_list_pop (Option.some.inj (hx.symm.trans GK.pop)) _ (callWith_es hn (hk _) (Calls.spliced_nil ⟨z3.base, ?_⟩))
            have ln:=g2.length
            have hne:xs0.length ≠ 0:=by intro q; rw [List.length_eq_zero_iff.mp q] at hlast; simp at hlast
            rw [List.getLast?_eq_getElem?] at hlast
            obtain ⟨y,w1,w2⟩:=g2.get hlast
            have e1:vs0.toArray.eraseIdxIfInBounds (vs0.toArray.size - 1) = vs0.dropLast.toArray:=by
              rw [List.eraseIdxIfInBounds_toArray,List.size_toArray,List.eraseIdx_eq_take_drop_succ,List.dropLast_eq_take,List.drop_of_length_le (by (first | lia | omega)),List.append_nil]
            obtain ⟨n',hn'⟩:=listObj_update g1 (fun xs=>xs.eraseIdxIfInBounds (vs0.toArray.size - 1)) e1
            have rd:RVs G.ws am1 s1.heap xs0.dropLast vs0.dropLast:=by rw [List.dropLast_eq_take,List.dropLast_eq_take,← ln]; exact g2.take _
            obtain ⟨t1,t2⟩:=z3.turnList (ys:=xs0.dropLast) hx0 hm hn' rd (by simp only [List.length_dropLast]; (first | lia | omega))
            refine call_meets F.slot_list_pop ⟨_,g1,rfl⟩ F.entry_list_pop (F.args_list_pop_1 _) (MeetsSeq.list_pop_last a vs0.toArray n0 y (by rw [List.size_toArray,← ln]; simpa using w1) (by rw [List.size_toArray,← ln,sizeLine]; simp only [lim] at g3; (first | lia | omega))) ⟨g1,?_⟩
            exact EvP.back z4 ⟨u,_,am1,q2,t2.rv w2,t1,t2,z5.heap _⟩
        | false=>
          rw [hemp] at z1
          obtain ⟨q1,q2⟩:=z1
          subst q1
          refine ga "append" "list.append" F.slot_list_append F.type_list_append (Option.some.inj (hx.symm.trans GK.app)) _ (callWith_es hn (hk _) (wpAny_mono (h2 pos loc p1 _ X A s1 am1 q2 rm R1) (fun vals s2 y => ?_) fun zz zz y => y))
          obtain ⟨yl,vs,p2,am2,y1,y2,y3,y4,y5⟩:=y
          refine ⟨y3.base,?_⟩
          cases y2 with
          | nil=>exact y1.elim
          | cons r1 r2=>
          cases r2 with
          | cons _ _=>exact y1.elim
          | nil=>
          rename_i v val
          dsimp only at y1
          cases hys:p2[a0]? with
          | none=>rw [hys] at y1; exact y1.elim
          | some ob=>
          rw [hys] at y1
          cases ob with
          | list ys=>
            dsimp only at y1
            obtain ⟨c1,c2⟩:=y1
            have o2:=y3.objs _ _ _ hys (y4.map _ _ hm)
            cases o2 with
            | list g1 g2 g3 g4=>
              rename_i vs1 n1
              have ln:=g2.length
              have e1:vs1.toArray.push val = (vs1 ++ [val]).toArray:=by simp
              obtain ⟨n',hn'⟩:=listObj_update g1 (fun xs=>xs.push val) e1
              obtain ⟨t1,t2⟩:=y3.turnList (ys:=ys ++ [v]) hys (y4.map _ _ hm) hn' (g2.append (.cons r1 .nil)) (by simp; (first | lia | omega))
              refine call_meets F.slot_list_append ⟨_,g1,rfl⟩ F.entry_list_append (F.args_list_append_2 _ _) (PySem.list_append _ vs1.toArray n1 val (by rw [List.size_toArray,← ln,sizeLine]; simp only [lim] at g3; (first | lia | omega))) ⟨g1,?_⟩
              exact EvP.back (z4.trans y4) ⟨.none,_,am2,c2,.none,t1,t2,⟨y5.gens,y5.os⟩⟩
          | _=>exact y1.elim
    | _=>exact z1.elim
  | _=>exact z1.elim
end
end Mine
end
noncomputable section
namespace Mine
open PySem PySem.W PyProof.Rows
theorem roomC_under {X : Nat → Hp → Prop} {A : Around} {r : Nat} {Ca : Addr} {rest : List Value} (x : Room X A (r + 1)) : RoomC X (A.under (.builtin "type.__call__" ⟨.ref Ca :: rest, []⟩)) r := by
  obtain ⟨env,l,hf,-⟩:=x.frames
  have w : (Code.builtin "type.__call__" ⟨.ref Ca :: rest, []⟩).weight = 1 := by rfl
  have u : (Code.builtin "type.__call__" ⟨.ref Ca :: rest, []⟩).cUnits = 1 := by rfl
  have e : (Code.builtin "type.__call__" ⟨.ref Ca :: rest, []⟩).envs = [] := by rfl
  refine ⟨?_,?_,x.handled,⟨env :: l,?_⟩,x.noX⟩
  · show A.depth + (Code.builtin "type.__call__" ⟨.ref Ca :: rest, []⟩).weight + r + 101 ≤ _
    rw [w]; have:=x.depth; (first | lia | omega)
  · show A.units + (Code.builtin "type.__call__" ⟨.ref Ca :: rest, []⟩).cUnits + 10 * r + 300 ≤ _
    rw [u]; have:=x.units; (first | lia | omega)
  · show pushEnvs (Code.builtin "type.__call__" ⟨.ref Ca :: rest, []⟩).envs A.frames = _
    rw [e]; exact hf
section
variable {G:Glb} {g:Genv} {C N:Oracle} {env:Env} {names:List (Str × NameKind)} {r:Nat}
theorem snd_new (GK : GG G g) (O : EnvOk env names) {rn : Nat} (HN : CallOk G N rn) (hrn : r = rn + 1 ∨ ∀ f vs hp Q X, ¬ N f vs hp Q X) {x : Str} {p pos : Pos} {es : List PySem.Expr} {is : List Mine.E} {c : Nat} {Ca : Addr} (hk : env.kindOf x = some .globalImplicit) (hd : (x == ("__debug__" : Str)) = false) (hc : G.cls c = some Ca)
    (e:nsIn G.K mainGlobals x = some (some (.ref Ca))) (hn:es.all notStar = true) (h1:SndEs G g C N env names r es is):Snd G g C N env names r (.Call (.Name x p) es [] pos) (.new c is):=fun loc hp Q X A s am h rm R=>by
  dsimp only [wE_new] at h
  obtain ⟨k1,k1',k2,k3,k4,k5,k6⟩:=clsOk_get (GK.cls _ _ hc)
  refine call_name R rm hn (fun hh kb=>keeps_K k6 hh (GK.ok.x.keeps kb)) (fun U u=>snd_global GK O R hk hd e u) h1 h fun vs vals p1 s1 am1 k rv R1 a1 zz=>?_
  cases hi:g.init c with
  | none=>rw [hi] at k; exact k.elim
  | some f=>
    rw [hi,onSome_some] at k
    obtain ⟨C',fa,i1,i2,i3,i4⟩:=GK.init c f hi
    rw [hc] at i1; cases i1
    rcases hrn with hrn | hrn
    · subst hrn
      obtain ⟨hh,gn,dd,tt,os⟩:=s1
      have Xk:=GK.ok.x.keeps R1.hr.base
      have kp:∀ b o,hh.get? b = some o → ((hh.push emptyDict).push (instObj Ca hh.objs.size)).get? b = some o:=fun b o e=>Heap.get?_push_of_some _ (Heap.get?_push_of_some _ e)
      have n1:hh.get? (hh.objs.size + 1) = none:=get_none_of_size1
      have n2:hh.get? hh.objs.size = none:=get_none_of_size
      have bn:∀ a,hh.get? a = none → G.base.get? a = none:=fun a q=>by
        cases z:G.base.get? a with
        | none=>rfl
        | some o=>have:=R1.hr.base _ _ z; rw [q] at this; cases this
      have gx:((hh.push emptyDict).push (instObj Ca hh.objs.size)).get? (hh.objs.size + 1) = some (instObj Ca hh.objs.size):=by
        have:=Heap.get?_push_size (o:=instObj Ca hh.objs.size) (hh.push emptyDict) rfl
        rwa [Heap.size_push] at this
      have gd:((hh.push emptyDict).push (instObj Ca hh.objs.size)).get? hh.objs.size = some (dictOf [] 0):=Heap.get?_push_of_some _ (Heap.get?_push_size _ rfl)
      have hr2:HR G (am1 ++ [(hh.objs.size + 1,hh.objs.size)]) ((hh.push emptyDict).push (instObj Ca hh.objs.size)) (p1 ++ [.inst c []]):=
        R1.hr.more kp n2 (.inst hc gx gd .nil (by simp) (bn _ n1) (bn _ n2) (by simp))
      have af:Aft [] hh am1 ((hh.push emptyDict).push (instObj Ca hh.objs.size)) (am1 ++ [(hh.objs.size + 1,hh.objs.size)]):=Aft.more kp n1 n2
      have last:(am1 ++ [(hh.objs.size + 1,hh.objs.size)])[p1.length]? = some (hh.objs.size + 1,hh.objs.size):=by rw [← R1.hr.len]; exact am_last _
      refine wpAny_call (make_core (makes_of Xk k3) (looks_findIn Xk i3) (fun self=>bind_fn Xk self (beq_iff_eq.mp i4)) (.inl rfl) ?_)
      refine codeAny_mono (HN f fa _ _ _ X (A.under (.builtin "type.__call__" ⟨.ref Ca :: vals, []⟩)) ⟨(hh.push emptyDict).push (instObj Ca hh.objs.size), gn, dd, tt, os⟩ _ (.ref (hh.objs.size + 1) :: vals) i2 k (roomC_under rm) (by have q : G.base.objs.size ≤ hh.objs.size := R1.size; simp only [Heap.size_push]; exact nlt q (nlt (Nat.le_succ _) (Nat.le_succ _))) hr2 ⟨R1.same.gens, R1.same.os⟩ (.cons (.ref last) (af.rvs rv))) fun res s' w => ?_
      rcases res with e | (_ | _ | _ | v)
      · exact w.back (a1.trans af)
      · exact w.elim
      · exact w.elim
      · exact w.elim
      · obtain ⟨u,p3,am3,⟨w0,w1⟩,w2,w3,w4,w5⟩:=w
        subst w0
        cases w2
        exact ⟨rfl,EvP.back (a1.trans af) ⟨.ref p1.length,p3,am3,w1,.ref (w4.map _ _ last),w3,w4,w5⟩⟩
    · exact absurd k (hrn _ _ _ _ _)
end
end Mine
end
noncomputable section
namespace Mine
open PySem PySem.W PyProof.Rows
section
variable {G:Glb} {g:Genv} {C N:Oracle} {env:Env} {names:List (Str × NameKind)} {r:Nat} {s:Shared} {am:AM} {hp:Hp} {A:Around} {E:Value → Shared → Prop} {Q:V → Hp → Prop}
theorem evp_keep {h':Heap} {tk:Nat} {v:V} {val:Value} (x:HR G am s.heap hp) (sm:Same G s) (rv:RV G.ws am s.heap v val) (q:Q v hp) (k:∀ b o,s.heap.get? b = some o → h'.get? b = some o):EvP G s am Q val { s with heap:=h',toks:=tk }:=
  ⟨v,hp,am,q,rv.mono (fun zz zz t=>t.keeps k) (fun zz zz e=>e),x.keepAll k,Aft.ofKeep k,⟨sm.gens,sm.os⟩⟩
noncomputable def biV:Bi → Value
  | .len => .builtin "len" | .int => .type "int" | .list => .type "list" | .tuple => .type "tuple" | .max => .builtin "max" | .min => .builtin "min" | .sum => .builtin "sum"
noncomputable def biN:Bi → Str
  | .len => "len" | .int => "int" | .list => "list" | .tuple => "tuple" | .max => "max" | .min => "min" | .sum => "sum"
theorem one_arg {vs:List V} {vals:List Value} {v:V} (e:arg1 vs = some v) (rv:RVs G.ws am s.heap vs vals):∃ val,vals = [val] ∧ RV G.ws am s.heap v val:=by
  rw [arg1_some e] at rv
  cases rv with
  | cons r1 r2=>cases r2; exact ⟨_,rfl,r1⟩
theorem two_arg {vs:List V} {vals:List Value} {v:V × V} (e:arg2 vs = some v) (rv:RVs G.ws am s.heap vs vals):∃ a b,vals = [a,b] ∧ RV G.ws am s.heap v.1 a ∧ RV G.ws am s.heap v.2 b:=by
  rw [arg2_some e] at rv
  cases rv with
  | cons r1 r2=>cases r2 with
    | cons r2 r3=>cases r3; exact ⟨_,_,rfl,r1,r2⟩
theorem bi_ok {X:Nat → Hp → Prop} (rm:Room X A r) (x:HR G am s.heap hp) (sm:Same G s) {b:Bi} {vs:List V} {vals:List Value} {p:V × Hp} (e:biop b vs hp = some p) (rv:RVs G.ws am s.heap vs vals) (q:Q p.1 p.2):wpAny (model G.prog G.w) A (call (biV b) vals) (EvP G s am Q) E s:=by
  cases b with
  | len=>
    obtain ⟨v,e1,e2⟩:=bind_some (show (arg1 vs).bind _ = some p from e)
    obtain ⟨val,rfl,r1⟩:=one_arg e1 rv
    obtain ⟨n,e3,e4⟩:=map_some' e2
    subst e4
    clear e e2
    change (match v.asTup with | some xs=>some xs.length | none=>(itmOf v hp).map List.length) = some n at e3
    cases ht:v.asTup with
    | some xs=>
      rw [ht] at e3
      cases e3
      rw [asTup_some ht] at r1
      cases r1 with
      | tup i rs l=>
        have ln:=rs.length
        refine PyProof.Rows.len_tuple i (by simp only [List.size_toArray,← ln]; simp only [lim] at l; (first | lia | omega)) ?_
        rw [List.size_toArray,← ln]
        exact evp_here (v:=.int _) q (.int _ _) x rfl ⟨sm.gens,sm.os⟩
    | none=>
      rw [ht] at e3
      obtain ⟨xs,e5,e6⟩:=map_some' e3
      subst e6
      obtain ⟨ad,o,rfl,ho,hi⟩:=itmOf_some e5
      cases r1 with
      | ref m=>
        obtain ⟨vs,n,ob,h1,h2,h3,h4,h5⟩:=x.items ho hi m
        have ln:=h4.length
        refine Calls.call_len_list ⟨ob,h1,h2,n,h3⟩ (by simp only [List.size_toArray,← ln]; simp only [lim] at h5; (first | lia | omega)) ?_
        rw [List.size_toArray,← ln]
        exact evp_here (v:=.int _) q (.int _ _) x rfl ⟨sm.gens,sm.os⟩
  | int=>
    obtain ⟨v,e1,e2⟩:=bind_some (show (arg1 vs).bind _ = some p from e)
    obtain ⟨val,rfl,r1⟩:=one_arg e1 rv
    obtain ⟨n,e3,e4⟩:=map_some' e2
    subst e4
    clear e e2
    change (match v.asBool with | some b=>some (if b then 1 else 0) | none=>v.asInt) = some n at e3
    cases ht:v.asBool with
    | some c=>
      rw [ht] at e3
      cases e3
      rw [asBool_some ht] at r1
      cases r1
      exact call_int_bool (evp_here (v:=.int _) q (.int _ _) x rfl ⟨sm.gens,sm.os⟩)
    | none=>
      rw [ht] at e3
      rw [asInt_some e3] at r1
      cases r1
      exact call_int_int (evp_here (v:=.int _) q (.int _ _) x rfl sm)
  | list=>cases e
  | tuple=>cases e
  | max=>
    obtain ⟨v,e1,e2⟩:=bind_some (show (arg2 vs).bind _ = some p from e)
    obtain ⟨va,vb,rfl,r1,r2⟩:=two_arg e1 rv
    obtain ⟨i,e3,e4⟩:=bind_some e2
    obtain ⟨j,e5,e6⟩:=map_some' e4
    subst e6
    rw [asInt_some e3] at r1
    rw [asInt_some e5] at r2
    cases r1; cases r2
    refine max_two_ints rm.handled fun h' tk hk=>?_
    by_cases hlt:i < j
    · rw [if_pos hlt]; exact evp_keep x sm (.int _ _) (by simpa only [if_pos hlt] using q) hk
    · rw [if_neg hlt]; exact evp_keep x sm (.int _ _) (by simpa only [if_neg hlt] using q) hk
  | min=>cases e
  | sum=>cases e
theorem snd_bi (GK:GG G g) (O:EnvOk env names) {b:Bi} {p pos:Pos} {es:List PySem.Expr} {is:List Mine.E} (hk:env.kindOf (biN b) = some .globalImplicit) (hm:nsIn G.K mainGlobals (biN b) = some none) (hn:es.all notStar = true) (h1:SndEs G g C N env names r es is) :
    Snd G g C N env names r (.Call (.Name (biN b) p) es [] pos) (.bi b is):=fun loc hp Q X A s am h rm R=>by
  dsimp only [wE_bi] at h
  have hd : (biN b == ("__debug__" : Str)) = false := by cases b <;> decide
  have hb:bootBuiltins (biN b) = some (biV b):=by cases b <;> decide +kernel
  have hnn : biN b ≠ "__name__" := by cases b <;> decide
  refine call_name R rm hn (fun hh zz=>by cases b <;> first | exact keeper_builtin | exact keeper_type) (fun U u=>snd_builtin GK O R hk hd hm hb hnn u) h1 h fun vs vals p1 s1 am1 k rv R1 a1 zz=>?_
  cases e:biop b vs p1 with
  | none=>rw [e] at k; exact k.elim
  | some p=>
    rw [e,onSome_some] at k
    exact wpAny_mono (bi_ok rm R1.hr R1.same e rv k) (fun zz zz z=>z.back a1) fun zz zz z=>z
end
end Mine
end
noncomputable section
namespace Mine
open PySem PySem.W PyProof.Rows
noncomputable def tyS:Ty → Option String
  | .int => some "int" | .bool => some "bool" | _ => none
noncomputable def tyOk (t : String) : Prop := t = "int" ∨ t = "bool"
theorem tyS_ok {t:Ty} {T:String} (h:tyS t = some T):tyOk T:=by
  cases t <;> cases h <;> first | exact .inl rfl | exact .inr rfl
theorem ty_boot {T:String} (h:tyOk T):bootBuiltins (Str.ofString T) = some (.type T):=by
  rcases h with rfl | rfl <;> decide +kernel
section
variable {G:Glb} {g:Genv} {C N:Oracle} {env:Env} {names:List (Str × NameKind)} {r:Nat} {s:Shared} {am:AM} {hp:Hp} {A:Around} {E:Value → Shared → Prop} {Q:V → Hp → Prop}
theorem isi_ok (x : HR G am s.heap hp) (sm : Same G s) {v : V} {val : Value} {t : Ty} {T : String} {b : Bool} (hT : tyS t = some T) (e : isiop v t hp = some b) (rv : RV G.ws am s.heap v val) (q : Q (.bool b) hp) : wpAny (model G.prog G.w) A (call (.builtin "isinstance") [val, .type T]) (EvP G s am Q) E s := by
  obtain ⟨k,ek,e⟩:=bind_some e
  cases rv with
  | int i u=>
    cases ek
    cases t with
    | int=>
      cases hT
      cases e
      exact call_isinstance (isinstance_true (Tx := "int") rfl (by rw [isSubtype_type]; kernel_rfl)) ⟨typeIs_int s i u, evp_here (v := .bool true) q (.bool true) x rfl sm⟩
    | bool=>
      cases hT
      cases e
      exact call_isinstance (isinstance_false_int (by decide) rfl (by rw [isSubtype_type]; kernel_rfl)) (evp_here (v:=.bool false) q (.bool false) x rfl ⟨sm.gens,sm.os⟩)
    | _=>cases hT
  | _=>cases ek
theorem snd_isi (GK : GG G g) (O : EnvOk env names) {t : Ty} {T : String} {p p2 pos : Pos} {e : PySem.Expr} {i : Mine.E} (hT : tyS t = some T) (hk : env.kindOf "isinstance" = some .globalImplicit) (hm : nsIn G.K mainGlobals "isinstance" = some none)
    (hk2:env.kindOf (Str.ofString T) = some .globalImplicit) (hm2:nsIn G.K mainGlobals (Str.ofString T) = some none) (hn:notStar e = true) (h1:Snd G g C N env names r e i) :
    Snd G g C N env names r (.Call (.Name "isinstance" p) [e, .Name (Str.ofString T) p2] [] pos) (.isi i t) := fun loc hp Q X A s am h rm R => by
  dsimp only [wE_isi] at h
  rw [eval_Call_plain ⟨_,_,rfl⟩]
  refine wpAny_bind (snd_builtin GK O R hk (by decide) hm (v := .builtin "isinstance") (by decide +kernel) (by decide) ?_)
  refine callWith_es (P:=fun zz=>True) (by simp only [List.all_cons,hn,List.all_nil,Bool.true_and,Bool.and_true]; rfl) (fun zz zz=>keeper_builtin) ?_
  rw [starEach_cons hn,starEach_cons (by rfl)]
  refine Calls.spliced_cons (wpAny_mono (h1 loc hp _ X A s am h rm R) (fun v s1 z=>?_) fun zz zz z=>z)
  obtain ⟨c,p1,am1,z1,z2,z3,z4,z5⟩:=z
  have ok:=tyS_ok hT
  refine Calls.spliced_cons (snd_builtin GK O (R.step z4 z3 z5) hk2 ?_ hm2 (ty_boot ok) ?_ (Calls.spliced_nil ⟨trivial,?_⟩))
  · rcases ok with rfl | rfl | rfl | rfl | rfl <;> decide
  · rcases ok with rfl | rfl | rfl | rfl | rfl <;> decide
  · cases e:isiop c t p1 with
    | none=>rw [e] at z1; exact z1.elim
    | some b=>
      rw [e,onSome_some] at z1
      exact wpAny_mono (isi_ok z3 z5 hT e z2 z1) (fun zz zz y=>y.back z4) fun zz zz y=>y
theorem cut_pick {xs:List V} {vs:List Value} {lo hi:Option Nat} (rv:RVs G.ws am s.heap xs vs):∃ us,slicePick vs.toArray (lo.map Int.ofNat) (hi.map Int.ofNat) none = us.toArray ∧ RVs G.ws am s.heap (cut xs lo hi) us:=by
  have key:∀ (a b:Nat),(vs.drop (min a vs.length)).take (min b vs.length - min a vs.length) = (vs.take b).drop a:=by
    intro a b
    rw [List.drop_take]
    rcases Nat.le_total a vs.length with h | h
    · rw [Nat.min_eq_left h]
      rcases Nat.le_total b vs.length with h' | h'
      · rw [Nat.min_eq_left h']
      · rw [Nat.min_eq_right h',List.take_of_length_le (by simp),List.take_of_length_le (by simp; (first | lia | omega))]
    · rw [Nat.min_eq_right h,List.drop_of_length_le (Nat.le_refl _),List.drop_of_length_le h]; simp
  cases lo with
  | none=>cases hi with
    | none=>exact ⟨vs,by simp [slicePick_all],rv⟩
    | some b=>exact ⟨vs.take b,by simpa using slicePick_upto' vs.toArray b,rv.take b⟩
  | some a=>cases hi with
    | none=>exact ⟨vs.drop a,by simpa using slicePick_from' vs.toArray a,rv.drop a⟩
    | some b=>
      refine ⟨(vs.take b).drop a,?_,(rv.take b).drop a⟩
      show slicePick vs.toArray (some (a:Int)) (some (b:Int)) none = _
      rw [slicePick_plain]
      simp only [Option.elim,clipAt_nat,List.size_toArray]
      rw [key]
end
end Mine
end
noncomputable section
namespace Mine
open PySem PyProof PyProof.Rows
end Mine
end
noncomputable section
namespace Mine
open PySem PySem.W PyProof.Rows
section
variable {G:Glb} {g:Genv} {C N:Oracle} {env:Env} {names:List (Str × NameKind)} {r:Nat} {s:Shared} {am:AM} {hp:Hp} {A:Around} {E:Value → Shared → Prop} {Q:V → Hp → Prop}
noncomputable def SndO (G:Glb) (g:Genv) (C N:Oracle) (env:Env) (names:List (Str × NameKind)) (r:Nat):Option PySem.Expr → Mine.E → Prop
  | none,i=>i = .none
  | some e,i=>Snd G g C N env names r e i
theorem sndO_ev {e:Option PySem.Expr} {i:Mine.E} (h:SndO G g C N env names r e i) (loc:Locs) (hp:Hp) (Q:V → Hp → Prop) (X:Nat → Hp → Prop) (A:Around) (s:Shared) (am:AM) (h1:wpE g C N loc i hp Q X) (rm:Room X A r) (R:Rel G env names s am loc hp) :
    wpAny (model G.prog G.w) A (evalPart e env) (EvP G s am Q) XN s:=by
  cases e with
  | none=>simp only [SndO] at h; subst h; dsimp only [wE_none,wE_bool,wE_int,wE_str,wE_loc,wE_bin,wE_not_,wE_cmp,wE_cmp2,wE_and_,wE_or_,wE_tup,wE_lst,wE_idx,wE_slc,wE_attr,wE_call,wE_new,wE_meth,wE_bi,wE_isi,wE_comp] at h1; exact wpAny_pure (evp_here h1 .none R.hr rfl R.same)
  | some e=>exact h loc hp Q X A s am h1 rm R
theorem bnd_part {v:V} {val:Value} {h:Heap} {l:Option Nat} (e:bnd v = some l) (rv:RV G.ws am h v val):IsPart val (l.map Int.ofNat):=by
  cases rv with
  | none=>simp [bnd] at e; subst e; exact .none
  | int i t=>
    simp only [bnd] at e
    split at e
    · cases e; rename_i h0; have:(Int.ofNat i.toNat) = i:=by simp; (first | lia | omega)
      simp only [Option.map_some,this]; exact .int i t
    · cases e
  | _=>simp [bnd] at e
theorem cut_len (xs:List V) (lo hi:Option Nat):(cut xs lo hi).length ≤ xs.length:=by
  unfold cut
  cases lo <;> cases hi <;> simp <;> (first | lia | omega)
theorem snd_slc {e1:PySem.Expr} {lo hi:Option PySem.Expr} {i1 i2 i3:Mine.E} {p pos:Pos} (h1:Snd G g C N env names r e1 i1) (h2:SndO G g C N env names r lo i2) (h3:SndO G g C N env names r hi i3) :
    Snd G g C N env names r (.Subscript e1 (.Slice lo hi none p) pos) (.slc i1 i2 i3):=fun loc hp Q X A s am h rm R=>by
  dsimp only [wE_slc] at h
  refine Subscript_ (wpAny_mono (h1 loc hp _ X A s am h rm R) (fun v s1 z=>?_) fun zz zz z=>z)
  obtain ⟨a,p1,am1,z1,z2,z3,z4,z5⟩:=z
  have R1:=R.step z4 z3 z5
  refine wpAny_Slice (wpAny_mono (sndO_ev h2 loc p1 _ X A s1 am1 z1 rm R1) (fun vl s2 y=>?_) fun zz zz y=>y)
  obtain ⟨b,p2,am2,y1,y2,y3,y4,y5⟩:=y
  have R2:=R1.step y4 y3 y5
  refine wpAny_mono (sndO_ev h3 loc p2 _ X A s2 am2 y1 rm R2) (fun vh s3 x=>?_) fun zz zz y=>y
  obtain ⟨c,p3,am3,x1,x2,x3,x4,x5⟩:=x
  refine wpAny_pure ?_
  have back:=(z4.trans y4).trans x4
  have ra:=x4.rv (y4.rv z2)
  have rb:=x4.rv y2
  cases e:slcop a b c p3 with
  | none=>rw [e] at x1; exact x1.elim
  | some q=>
    rw [e,onSome_some] at x1
    obtain ⟨l,hl,e⟩:=bind_some (show (bnd b).bind _ = some q from e)
    obtain ⟨u,hu,e⟩:=bind_some e
    have pl:=bnd_part hl rb
    have pu:=bnd_part hu x2
    have kp := keep_push (h := s3.heap) ({ cls := .type "slice", data := .fields #[vl, vh, .none] } : Obj)
    have x3':=x3.keepAll kp
    have af : Aft [] s3.heap am3 (s3.heap.push { cls := .type "slice", data := .fields #[vl, vh, .none] }) am3 := Aft.ofKeep kp
    cases ht:a.asTup with
    | some xs=>
      rw [ht] at e; cases e
    | none=>
      rw [ht] at e
      obtain ⟨xs,e1,e2⟩:=map_some' e
      subst e2
      obtain ⟨ad,o,rfl,ho,hi⟩:=itmOf_some e1
      cases ra with
      | ref m=>
        obtain ⟨vs,n,ob,g1,g2,g3,g4,g5⟩:=x3'.items ho hi m
        obtain ⟨us, u1, u2⟩ := cut_pick (s := { s3 with heap := s3.heap.push { cls := .type "slice", data := .fields #[vl, vh, .none] } }) (lo := l) (hi := u) g4
        have ln:=g4.length
        refine tail_any (T := "list") ⟨ob, g1, g2⟩ slot_list_getitem.lookup (ops := [.ref s3.heap.objs.size, _]) (wpAny_getItem_list_slice ⟨ob, g1, g2, n, g3⟩ (Heap.IsSliceOf.new ..) pl pu .none (by simp) ?_ (by rw [List.size_toArray, ← ln, sizeLine]; simp only [lim] at g5; (first | lia | omega))) rfl
        exact EvP.back (s1 := { s3 with heap := s3.heap.push { cls := .type "slice", data := .fields #[vl, vh, .none] } }) (back.trans af) (evp_new_list (s := { s3 with heap := s3.heap.push { cls := .type "slice", data := .fields #[vl, vh, .none] } }) x3' ⟨x5.gens, x5.os⟩ u2 (nlt (cut_len xs l u) g5) x1 u1)
end
end Mine
end
noncomputable section
namespace Mine
open PySem PySem.W PyProof.Rows
theorem HR.sameBut {G:Glb} {am:AM} {h h':Heap} {hp:Hp} (x:HR G am h hp) {a:Addr} {o:Obj} (sb:Heap.SameBut a h h') (ho:h.get? a = some o) (hi:∀ C dx,o ≠ instObj C dx) (ht:∀ items n,o.data ≠ .seq items n) (hm:a ∉ am.muts) (hb:G.base.get? a = none):HR G am h' hp ∧ TupKept h h':=by
  have tk:TupKept h h':=fun b items t=>by
    obtain ⟨ob,hb,hcl,n,r⟩:=t
    have ne:b ≠ a:=fun q=>by rw [q,ho] at hb; cases hb; exact ht _ _ r
    exact ⟨ob,(sb.2 b ne).trans hb,hcl,n,r⟩
  refine ⟨⟨x.len,x.nodup,fun i oi p h1 h2=>?_,fun b ob e=>?_⟩,tk⟩
  · have n2:p.2 ≠ a:=fun e=>hm (by rw [← e]; exact List.mem_map_of_mem (List.mem_of_getElem? h2))
    have n1:p.1 ≠ a:=fun e=>n2 (by rw [← x.first ho hi p (List.mem_of_getElem? h2) e]; exact e)
    exact (x.objs i oi p h1 h2).mono tk (fun zz zz e=>e) (fun ob e=>(sb.2 _ n1).trans e) (fun ob e=>(sb.2 _ n2).trans e)
  · have ne:b ≠ a:=fun e'=>by rw [e',hb] at e; cases e
    rw [sb.2 b ne]; exact x.base b ob e
theorem Aft.sameBut {am:AM} {h h':Heap} {a:Addr} {own:List Addr} (sb:Heap.SameBut a h h') (ha:a ∈ own) (tk:TupKept h h') (lv:(h'.get? a).isSome = true):Aft own h am h' am:=
  ⟨fun b o e n zz=>by
    have ne:b ≠ a:=fun q=>n (q ▸ ha)
    rw [sb.2 b ne]; exact e,tk,⟨[],by simp,by simp⟩,fun b e=>by
    by_cases q:b = a
    · rw [q]; exact lv
    · rw [sb.2 b q]; exact e⟩
theorem Aft.weaken {own:List Addr} {h h':Heap} {am am':AM} (a:Aft [] h am h' am'):Aft own h am h' am':=⟨fun b o e zz n=>a.keep b o e (by simp) n,a.tup,a.ext,a.live⟩
theorem getL_set {loc:Locs} {i j:Nat} {v u:V} (h:Mine.getL (loc.set i (some v)) j = some u):(i = j ∧ u = v) ∨ (i ≠ j ∧ Mine.getL loc j = some u):=by
  unfold Mine.getL at h ⊢
  by_cases e:i = j
  · subst e
    by_cases hl:i < loc.length
    · rw [List.getElem?_set_self hl] at h; simp at h; exact .inl ⟨rfl,h.symm⟩
    · rw [List.getElem?_eq_none (by simp; (first | lia | omega))] at h; simp at h
  · rw [List.getElem?_set_ne e] at h; exact .inr ⟨e,h⟩
section
variable {G:Glb} {g:Genv} {C N:Oracle} {env:Env} {names:List (Str × NameKind)} {r:Nat} {s:Shared} {am:AM} {loc:Locs} {hp:Hp} {A:Around} {E:Value → Shared → Prop}
theorem names_inj (O:EnvOk env names) {i j:Nat} {x:Str} {k k':NameKind} (h1:names[i]? = some (x,k)) (h2:names[j]? = some (x,k')):i = j:=by
  have a1:(names.map (·.1))[i]? = some x:=by simp [h1]
  have a2:(names.map (·.1))[j]? = some x:=by simp [h2]
  exact (List.getElem?_inj (by obtain ⟨z,_⟩:=List.getElem?_eq_some_iff.mp a1; exact z) O.nodup).mp (a1.trans a2.symm)
theorem ns_obj {h:Heap} {a:Addr} {m:Str → Option Value} (x:h.Ns a m):∃ o,h.get? a = some o ∧ (∀ C dx,o ≠ instObj C dx) ∧ ∃ es ep,o.data = .dict es ep:=by
  obtain ⟨o,es,ep,ho,hd,_⟩:=x
  exact ⟨o,ho,fun C dx e=>(by rw [e] at hd; cases hd),es,ep,hd⟩
noncomputable def ownB (env:Env):Bool → List Addr
  | true=>[env.locals]
  | false=>ownA env
noncomputable def kB (b:Bool) (k:NameKind):Prop:=k = .local ∨ (b = false ∧ k = .cell)
theorem store_own (O:EnvOk env names) (R:Rel G env names s am loc hp) {i:Nat} {x:Str} {k:NameKind} (hx:names[i]? = some (x,k)) {b:Bool} (hk:kB b k) {v:V} {val:Value} (rv:RV G.ws am s.heap v val) {T:Unit → Shared → Prop}
    (h:∀ s',Rel G env names s' am (loc.set i (some v)) hp → Aft (ownB env b) s.heap am s'.heap am → T () s'):wpAny (model G.prog G.w) A (storeName env x val) T E s:=by
  refine of_P fun P hP=>?_
  obtain ⟨m,F,lr⟩:=R.fr
  obtain ⟨o1,o2,o3,o4⟩:=O.kinds i x k hx
  have isc:∀ c,(h:Heap) → ∀ v,h.IsCell c v → ∃ o,h.get? c = some o ∧ (∀ C dx,o ≠ instObj C dx):=fun c h v ⟨o,ho,hd⟩=>⟨o,ho,fun C dx e=>by rw [e] at hd; cases hd⟩
  rcases hk with rfl | ⟨rfl,rfl⟩
  · refine hP (wpAny_storeName_local o1 F.ns (fun h' hn hs=>?_) (by rw [O.kind]; rfl))
    refine of_P fun P hP=>?_
    obtain ⟨oL,hL,hLi,eL,pL,dL⟩:=ns_obj F.ns
    obtain ⟨hr',tk⟩:=R.hr.sameBut hs hL hLi (fun zz zz q=>by rw [q] at dL; cases dL) (R.own _ (by simp [ownA])).1 (R.own _ (by simp [ownA])).2
    have cl:∀ c ∈ env.cells,∀ v,s.heap.IsCell c.2 v → h'.IsCell c.2 v:=fun c hc v q=>q.sameBut hs (R.apartL c hc).1
    have lv:(h'.get? env.locals).isSome = true:=by obtain ⟨o,_,_,ho,_⟩:=hn; rw [ho]; rfl
    refine hP (h _ ⟨hr',⟨_,F.set hn hs,fun j u e=>?_⟩,R.own,fun y hy=>?_,R.apart,fun c hc=>⟨(R.apartL c hc).1,?_⟩,by simp [R.len],⟨R.same.gens,R.same.os⟩⟩ (Aft.sameBut hs (by cases b <;> simp [ownA,ownB]) tk lv))
    · rcases getL_set e with ⟨rfl,rfl⟩ | ⟨ne,e⟩
      · exact ⟨x,.local,val,hx,rv.mono tk (fun zz zz e=>e),by simp [BindAt]⟩
      · obtain ⟨y,k',val',h1,h2,h3⟩:=lr j u e
        refine ⟨y,k',val',h1,h2.mono tk (fun zz zz e=>e),?_⟩
        cases k' <;> simp only [BindAt] at h3 ⊢
        · rw [if_neg]; exact h3
          rintro rfl
          exact ne (names_inj O hx h1)
        · obtain ⟨c,h4,h5⟩:=h3; exact ⟨c,h4,cl _ (mem_of_lookup h4) _ h5⟩
        · obtain ⟨c,h4,h5⟩:=h3; exact ⟨c,h4,cl _ (mem_of_lookup h4) _ h5⟩
    · obtain ⟨c,v0,h1,h2⟩:=R.cells y hy
      exact ⟨c,v0,h1,cl _ (mem_of_lookup h1) _ h2⟩
    · rw [hs.2 _ (R.apartL c hc).1]; exact (R.apartL c hc).2
  · obtain ⟨c,v0,hc,hv⟩:=R.cells x (List.mem_of_getElem? hx)
    have hmem:=mem_of_lookup hc
    refine hP (wpAny_storeName_cell O.kind o1 hc hv fun h' hn hs=>?_)
    refine of_P fun P hP=>?_
    have hown:c ∈ ownA env:=by simp only [ownA,List.mem_cons,List.mem_map]; exact .inr ⟨(x,c),hmem,rfl⟩
    obtain ⟨oc,hoc,hod⟩:=hv
    have hoi:∀ C dx,oc ≠ instObj C dx:=fun C dx e=>by rw [e] at hod; cases hod
    have hct:∀ items n,oc.data ≠ .seq items n:=fun zz zz q=>by rw [q] at hod; cases hod
    obtain ⟨hr',tk⟩:=R.hr.sameBut hs hoc hoi hct (R.own _ hown).1 (R.own _ hown).2
    have lv:(h'.get? c).isSome = true:=by obtain ⟨o,ho,_⟩:=hn; rw [ho]; rfl
    have cl:∀ y d,env.cells.lookup y = some d → y ≠ x → ∀ v,s.heap.IsCell d v → h'.IsCell d v:=fun y d hd hy v q=>q.sameBut hs fun e=>hy (by
      subst e
      exact name_of_addr R.apart (mem_of_lookup hd) hmem)
    refine hP (h _ ⟨hr',⟨m,⟨F.ns.sameBut hs (Ne.symm (R.apartL _ hmem).1),hr'.base,F.above⟩,fun j u e=>?_⟩,R.own,fun y hy=>?_,R.apart,fun d hd=>⟨(R.apartL d hd).1,?_⟩,by simp [R.len],⟨R.same.gens,R.same.os⟩⟩ (Aft.sameBut hs hown tk lv))
    · rcases getL_set e with ⟨rfl,rfl⟩ | ⟨ne,e⟩
      · exact ⟨x,.cell,val,hx,rv.mono tk (fun zz zz e=>e),by simp only [BindAt]; exact ⟨c,hc,hn⟩⟩
      · obtain ⟨y,k',val',h1,h2,h3⟩:=lr j u e
        have nxy:y ≠ x:=fun q=>ne (names_inj O hx (q ▸ h1))
        refine ⟨y,k',val',h1,h2.mono tk (fun zz zz e=>e),?_⟩
        cases k' <;> simp only [BindAt] at h3 ⊢
        · exact h3
        · obtain ⟨d,h4,h5⟩:=h3; exact ⟨d,h4,cl y d h4 nxy _ h5⟩
        · obtain ⟨d,h4,h5⟩:=h3; exact ⟨d,h4,cl y d h4 nxy _ h5⟩
    · obtain ⟨d,v1,h1,h2⟩:=R.cells y hy
      by_cases e:y = x
      · subst e; rw [hc] at h1; cases h1; exact ⟨c,_,hc,hn⟩
      · exact ⟨d,v1,h1,cl y d h1 e _ h2⟩
    · by_cases e:d.2 = c
      · rw [e]; exact lv
      · rw [hs.2 _ e]; exact (R.apartL d hd).2
theorem store_ok (O:EnvOk env names) (R:Rel G env names s am loc hp) {i:Nat} {x:Str} {k:NameKind} (hx:names[i]? = some (x,k)) (hk:k = .local ∨ k = .cell) {v:V} {val:Value} (rv:RV G.ws am s.heap v val) {T:Unit → Shared → Prop}
    (h:∀ s',Rel G env names s' am (loc.set i (some v)) hp → Aft (ownA env) s.heap am s'.heap am → T () s'):wpAny (model G.prog G.w) A (storeName env x val) T E s:=
  store_own O R hx (b:=false) (hk.imp id fun e=>⟨rfl,e⟩) rv h
end
end Mine
end
noncomputable section
namespace Mine
open PySem PySem.W PyProof.Rows
noncomputable def allNews (base h:Heap) (L:Addr):List (Addr × Obj):=(List.range h.objs.size).filterMap fun a=>if a = L ∨ (base.get? a).isSome = true then none else (h.get? a).map fun o=>(a,o)
theorem mem_allNews {base h:Heap} {L a:Addr} {o:Obj}:(a,o) ∈ allNews base h L ↔ a ≠ L ∧ base.get? a = none ∧ h.get? a = some o:=by
  unfold allNews
  rw [List.mem_filterMap]
  constructor
  · rintro ⟨b,hb,e⟩
    split at e
    · cases e
    · rename_i hn
      obtain ⟨o',h1,h2⟩:=Option.map_eq_some_iff.mp e
      cases h2
      exact ⟨fun q=>hn (.inl q),by cases z:base.get? a with | none=>rfl | some _=>exact absurd (.inr (by rw [z]; rfl)) hn,h1⟩
  · rintro ⟨h1,h2,h3⟩
    refine ⟨a,List.mem_range.mpr (Heap.lt_size h3),?_⟩
    rw [if_neg (by rintro (q | q); exact h1 q; rw [h2] at q; cases q),h3]; rfl
theorem allNews_apart {base h:Heap} {L:Addr}:(allNews base h L).Pairwise fun x y=>x.1 ≠ y.1:=by
  unfold allNews
  rw [List.pairwise_filterMap]
  refine List.Pairwise.imp ?_ List.nodup_range
  intro a b hab x hx y hy
  have q:∀ {a:Addr} {x:Addr × Obj},(if a = L ∨ (base.get? a).isSome = true then none else (h.get? a).map fun o=>(a,o)) = some x → x.1 = a:=by
    intro a x e
    split at e
    · cases e
    · obtain ⟨o,_,h2⟩:=Option.map_eq_some_iff.mp e; rw [← h2]
  rw [q hx,q hy]; exact hab
theorem upd_exists {d:Addr} {o o':Obj}:∀ {l:List (Addr × Obj)},(d,o) ∈ l → (l.Pairwise fun x y=>x.1 ≠ y.1) → ∃ l',Upd d o o' l l' ∧ (∀ p ∈ l,p.1 ≠ d → p ∈ l') ∧ (d,o') ∈ l'
  | q :: r,hm,hp=>by
    obtain ⟨h1,h2⟩:=List.pairwise_cons.mp hp
    rcases List.mem_cons.mp hm with e | hm
    · subst e
      refine ⟨(d,o') :: r,.head fun p hp=>Ne.symm (h1 p hp),fun p hp hne=>?_,.head _⟩
      rcases List.mem_cons.mp hp with e | hp
      · exact absurd (by rw [e]) hne
      · exact .tail _ hp
    · obtain ⟨l',u,k,m⟩:=upd_exists hm h2
      refine ⟨q :: l',.tail (h1 _ hm) u,fun p hp hne=>?_,.tail _ m⟩
      rcases List.mem_cons.mp hp with e | hp
      · rw [e]; exact .head _
      · exact .tail _ (k p hp hne)
section
variable {G:Glb} {g:Genv} {C N:Oracle} {env:Env} {names:List (Str × NameKind)} {r:Nat} {s:Shared} {am:AM} {loc:Locs} {hp:Hp} {A:Around} {E:Value → Shared → Prop}
set_option tactic.hygienic true in
theorem RE.put {h:Heap} (GO:GOk G) {k:Nat} {x:Str} (hk:G.ws[k]? = some x) {v:V} {val:Value} (rv:RV G.ws am h v val) (t:Tok) {fs:List (Nat × V)} {es:List DictEntry} (r:RE G am h fs es) :
    RE G am h (putK fs k v) (putL x (PyData.keyHash G.w.params x) (.str x t) val es):=by
  induction r with
  | nil=>exact .cons hk rv .nil
  | cons hj rv' r ih=>
    rename_i j y t' u val' fs es
    simp only [putK,putL]
    have q:=word_eq GO hj hk
    by_cases e:j = k
    · rw [if_pos e]
      have:y = x:=q.mpr e
      subst this
      rw [if_pos (by simp [Value.isStr])]
      exact .cons hj rv r
    · rw [if_neg e]
      have:¬ y = x:=fun z=>e (q.mp z)
      rw [if_neg (by simpa [Value.isStr] using this)]
      exact .cons hj rv' ih
theorem putK_length (fs:List (Nat × V)) (k:Nat) (v:V):(putK fs k v).length ≤ fs.length + 1:=by
  induction fs with
  | nil=>simp [putK]
  | cons y ys ih=>obtain ⟨j,u⟩:=y; simp only [putK]; split <;> simp <;> (first | lia | omega)
theorem putL_length (x:Str) (hs:Int) (key v:Value) (es:List DictEntry):(putL x hs key v es).length ≤ es.length + 1:=by
  induction es with
  | nil=>simp [putL]
  | cons y ys ih=>simp only [putL]; split <;> simp <;> (first | lia | omega)
theorem RE.length {h:Heap} {fs:List (Nat × V)} {es:List DictEntry} (r:RE G am h fs es):fs.length = es.length:=by
  induction r with
  | nil=>rfl
  | cons _ _ _ ih=>exact congrArg Nat.succ ih
theorem putK_mem {fs:List (Nat × V)} {k:Nat} {v:V} {p:Nat × V} (h:p ∈ putK fs k v):p.1 = k ∨ ∃ q ∈ fs,q.1 = p.1:=by
  induction fs with
  | nil=>simp [putK] at h; subst h; exact .inl rfl
  | cons y ys ih=>
    obtain ⟨j,u⟩:=y
    simp only [putK] at h
    split at h
    · rcases List.mem_cons.mp h with e | h
      · rw [e]; exact .inr ⟨(j,u),.head _,rfl⟩
      · exact .inr ⟨p,.tail _ h,rfl⟩
    · rcases List.mem_cons.mp h with e | h
      · rw [e]; exact .inr ⟨(j,u),.head _,rfl⟩
      · rcases ih h with e | ⟨q,hq,e⟩
        · exact .inl e
        · exact .inr ⟨q,.tail _ hq,e⟩
theorem setAttr_ok (GK:GG G g) (R:Rel G env names s am loc hp) {x c f:Nat} {fs:List (Nat × V)} {nm:Str} {p:Addr × Addr} (hx:hp[x]? = some (.inst c fs)) (hm:am[x]? = some p) (hf:G.ws[f]? = some nm) (ha:g.at_ c f = true) (hl:fs.length < 400) {v:V} {val:Value} (rv:RV G.ws am s.heap v val) {T:Unit → Shared → Prop}
    (h:∀ s',Rel G env names s' am loc (hp.set x (.inst c (putK fs f v))) → Aft (ownA env) s.heap am s'.heap am → T () s'):wpAny (model G.prog G.w) A (setAttr (.ref p.1) nm val) T E s:=by
  refine of_P fun P hP=>?_
  obtain ⟨Ca,es,n,i1,i2,i3,i4,i5,i6,i7,i8,I⟩:=instAt R.hr hx hm
  obtain ⟨k1,k1',k2,k3,k4,k5,k6⟩:=clsOk_get (GK.cls _ _ i1)
  obtain ⟨m,F,lr⟩:=R.fr
  have hne:p.2 ≠ env.locals:=fun e=>(R.own env.locals (by simp [ownA])).1 (by rw [← e]; exact List.mem_map_of_mem (List.mem_of_getElem? hm))
  have N0:News G.base env.locals s.heap (allNews G.base s.heap env.locals):=fun q hq=>by
    obtain ⟨a,o⟩:=q
    obtain ⟨h1,h2,h3⟩:=mem_allNews.mp hq
    exact ⟨h3,h1,h2⟩
  have mem:(p.2,dictOf es n) ∈ allNews G.base s.heap env.locals:=mem_allNews.mpr ⟨hne,i7,i3⟩
  obtain ⟨news',U,kp,md⟩:=upd_exists (o':=dictOf (putL nm (PyData.keyHash G.w.params nm) (.str nm (s.toks + 1)) val es) (putN nm es n)) mem allNews_apart
  have fi:=GK.attrs c Ca f nm i1 ha hf
  have ln:=i4.length
  refine hP (set_dict (K:=G.K) F GK.ok.x N0 I rfl k5 k4 ?_ k2 ?_ rfl U ?_ fun h' F' N'=>?_)
  · unfold takerIn; rw [fi]; rfl
  · unfold W.getL
    split
    · rfl
    · rw [i4.noRef]; rfl
  · have:=putL_length nm (PyData.keyHash G.w.params nm) (.str nm (s.toks + 1)) val es; (first | lia | omega)
  · have keep:∀ b o,s.heap.get? b = some o → b ≠ env.locals → b ≠ p.2 → h'.get? b = some o:=fun b o e n1 n2=>by
      cases hb:G.base.get? b with
      | some o'=>rw [R.hr.base b o' hb] at e; cases e; exact F'.keep b o hb
      | none=>exact (N' _ (kp _ (mem_allNews.mpr ⟨n1,hb,e⟩) n2)).1
    have hd':=(N' _ md).1
    obtain ⟨oL,hL,hLi,eL,pL,dL⟩:=ns_obj F.ns
    have tk:TupKept s.heap h':=fun b items t=>by
      obtain ⟨ob,hb,hcl,n,hr⟩:=t
      refine ⟨ob,keep b ob hb ?_ ?_,hcl,n,hr⟩
      · rintro rfl; rw [hL] at hb; cases hb; rw [hr] at dL; cases dL
      · rintro rfl; rw [i3] at hb; cases hb; cases hr
    have np:∀ q ∈ am,q.1 ≠ env.locals ∧ q.2 ≠ env.locals:=fun q hq=>by
      have n2:q.2 ≠ env.locals:=fun e=>(R.own env.locals (by simp [ownA])).1 (by rw [← e]; exact List.mem_map_of_mem hq)
      exact ⟨fun e=>n2 (by rw [← R.hr.first hL hLi q hq e]; exact e),n2⟩
    have live:∀ b,(s.heap.get? b).isSome = true → (h'.get? b).isSome = true:=fun b e=>by
      cases c:s.heap.get? b with
      | none=>rw [c] at e; cases e
      | some o=>
        by_cases n1:b = env.locals
        · obtain ⟨o,_,_,ho,_⟩:=F'.ns; rw [n1,ho]; rfl
        · by_cases n2:b = p.2
          · rw [n2,hd']; rfl
          · rw [keep b o c n1 n2]; rfl
    have hr':HR G am h' (hp.set x (.inst c (putK fs f v))):=by
      refine ⟨by simp [R.hr.len],R.hr.nodup,fun j oj q h1 h2=>?_,F'.keep⟩
      have nl:=np q (List.mem_of_getElem? h2)
      by_cases hj:x = j
      · subst hj
        rw [hm] at h2; cases h2
        rw [List.getElem?_set_self (by obtain ⟨z,_⟩:=List.getElem?_eq_some_iff.mp hx; exact z)] at h1
        cases h1
        have n1:p.1 ≠ p.2:=fun e=>by rw [e,i3] at i2; cases i2
        refine .inst i1 (keep _ _ i2 nl.1 n1) hd' ((i4.put GK.ok hf rv _).mono tk fun zz zz e=>e) (by have:=putK_length fs f v; (first | lia | omega)) i6 i7 fun q hq=>?_
        rcases putK_mem hq with e | ⟨q',hq',e⟩
        · rw [e,GK.at_]; exact ha
        · rw [← e]; exact i8 q' hq'
      · rw [List.getElem?_set_ne hj] at h1
        have ne2:q.2 ≠ p.2:=fun e=>hj (by
          have a1:am.muts[x]? = some p.2:=by simp [AM.muts,hm]
          have a2:am.muts[j]? = some p.2:=by simp [AM.muts,h2,e]
          exact (List.getElem?_inj (by obtain ⟨z,_⟩:=List.getElem?_eq_some_iff.mp a1; exact z) R.hr.nodup).mp (a1.trans a2.symm))
        have ne1:q.1 ≠ p.2:=fun e=>ne2 (by rw [← R.hr.first i3 (by intro C dx e; cases e) q (List.mem_of_getElem? h2) e]; exact e)
        exact (R.hr.objs j oj q h1 h2).mono tk (fun zz zz e=>e) (fun ob e=>keep _ _ e nl.1 ne1) (fun ob e=>keep _ _ e nl.2 ne2)
    have cl:∀ c ∈ env.cells,∀ v,s.heap.IsCell c.2 v → h'.IsCell c.2 v:=fun c hc v ⟨o,ho,hd⟩=>⟨o,keep _ _ ho (R.apartL c hc).1 (fun e=>by rw [e,i3] at ho; cases ho; cases hd),hd⟩
    refine h _ ⟨hr',⟨m,F',fun j u e=>?_⟩,R.own,fun y hy=>?_,R.apart,fun d hd=>⟨(R.apartL d hd).1,live _ (R.apartL d hd).2⟩,R.len,⟨R.same.gens,R.same.os⟩⟩ ⟨fun b o e n1 n2=>keep b o e (fun q=>n1 (by rw [q]; simp [ownA])) (fun q=>n2 (by rw [q]; exact List.mem_map_of_mem (List.mem_of_getElem? hm))),tk,⟨[],by simp,by simp⟩,live⟩
    · obtain ⟨y,k',val',h1,h2,h3⟩:=lr j u e
      refine ⟨y,k',val',h1,h2.mono tk (fun zz zz e=>e),?_⟩
      cases k' <;> simp only [BindAt] at h3 ⊢
      · exact h3
      · obtain ⟨d,h4,h5⟩:=h3; exact ⟨d,h4,cl _ (mem_of_lookup h4) _ h5⟩
      · obtain ⟨d,h4,h5⟩:=h3; exact ⟨d,h4,cl _ (mem_of_lookup h4) _ h5⟩
    · obtain ⟨d,v0,h1,h2⟩:=R.cells y hy
      exact ⟨d,v0,h1,cl _ (mem_of_lookup h1) _ h2⟩
end
end Mine
end
noncomputable section
namespace Mine
open PySem PySem.W PyProof.Rows
inductive SPn (G:Glb) (env:Env) (names:List (Str × NameKind)) (s:Shared) (am:AM) (KN:St → Prop) (s':Shared):Prop
  | mk (loc':Locs) (hp':Hp) (am':AM):KN ⟨loc',hp'⟩ → Rel G env names s' am' loc' hp' → Aft (ownA env) s.heap am s'.heap am' → SPn G env names s am KN s'
inductive SPr (G:Glb) (env:Env) (s:Shared) (am:AM) (KR:V → Hp → Prop) (val:Value) (s':Shared):Prop
  | mk (v:V) (hp':Hp) (am':AM):KR v hp' → RV G.ws am' s'.heap v val → HR G am' s'.heap hp' → Aft (ownA env) s.heap am s'.heap am' → Same G s' → SPr G env s am KR val s'
noncomputable def SP (G:Glb) (env:Env) (names:List (Str × NameKind)) (s:Shared) (am:AM) (KN:St → Prop) (KR:V → Hp → Prop) (fl:Flow) (s':Shared):Prop:=match fl with
  | .next=>SPn G env names s am KN s'
  | .ret val=>SPr G env s am KR val s'
  | _=>False
theorem SP.back {G:Glb} {env:Env} {names:List (Str × NameKind)} {s s1:Shared} {am am1:AM} {KN:St → Prop} {KR:V → Hp → Prop} {fl:Flow} {s':Shared} (a:Aft (ownA env) s.heap am s1.heap am1) (x:SP G env names s1 am1 KN KR fl s'):SP G env names s am KN KR fl s':=by
  cases fl with
  | next=>obtain ⟨l,h,m,x1,x2,x3⟩:=x; exact ⟨l,h,m,x1,x2,a.trans x3⟩
  | ret v=>obtain ⟨l,h,m,x1,x2,x3,x4,x5⟩:=x; exact ⟨l,h,m,x1,x2,x3,a.trans x4,x5⟩
  | brk=>exact x.elim
  | cont=>exact x.elim
theorem XN.no {e:Value} {s':Shared} (x:XN e s'):False:=x
section
variable (G:Glb) (g:Genv) (C N:Oracle) (env:Env) (names:List (Str × NameKind)) (r:Nat)
noncomputable def SndS (st:Stmt) (i:Mine.S):Prop:=∀ (σ:St) (KN:St → Prop) (KR:V → Hp → Prop) (X:Nat → Hp → Prop) (A:Around) (s:Shared) (am:AM) (E:Value → Shared → Prop),
  wpS g C N i σ KN KR X → Room X A r → Rel G env names s am σ.loc σ.hp → wpAny (model G.prog G.w) A (exec st env) (SP G env names s am KN KR) E s
noncomputable def SndSs (sts:List Stmt) (i:Mine.S):Prop:=∀ (σ:St) (KN:St → Prop) (KR:V → Hp → Prop) (X:Nat → Hp → Prop) (A:Around) (s:Shared) (am:AM) (E:Value → Shared → Prop),
  wpS g C N i σ KN KR X → Room X A r → Rel G env names s am σ.loc σ.hp → wpAny (model G.prog G.w) A (execs sts env) (SP G env names s am KN KR) E s
end
theorem swaps_plain {e:PySem.Expr} (h:notComp e = true) (t:Option PySem.Expr) (l:Nat) (env:Env):swapsWith e t l env = pure false:=by
  cases e <;> first | rfl | cases h
section
variable {G:Glb} {g:Genv} {C N:Oracle} {env:Env} {names:List (Str × NameKind)} {r:Nat}
theorem interactive_no (O:EnvOk env names):interactive env = false:=by unfold interactive; rw [O.kind]; rfl
theorem sndSs_nil:SndSs G g C N env names r [] .skip:=fun σ KN KR X A s am E h zz R=>wpAny_execs_nil ⟨σ.loc,σ.hp,am,h,R,Aft.refl _ _ _⟩
theorem sndSs_cons {st:Stmt} {sts:List Stmt} {i j:Mine.S} (h1:SndS G g C N env names r st i) (h2:SndSs G g C N env names r sts j):SndSs G g C N env names r (st :: sts) (.seq i j):=fun σ KN KR X A s am E h rm R=>by
  dsimp only [wS_seq] at h
  refine wpAny_execs_cons (wpAny_mono (h1 σ _ KR X A s am E h rm R) (fun fl s1 z=>?_) fun zz zz z=>z)
  cases fl with
  | next=>
    obtain ⟨l,hp,am1,z1,z2,z3⟩:=z
    exact wpAny_mono (h2 ⟨l,hp⟩ KN KR X A s1 am1 E z1 rm z2) (fun zz zz y=>y.back z3) fun zz zz y=>y
  | ret v=>exact z
  | brk=>exact z.elim
  | cont=>exact z.elim
theorem sndS_pass (p:Pos):SndS G g C N env names r (.Pass p) .skip:=fun σ KN KR X A s am E h zz R=>wpAny_Pass ⟨σ.loc,σ.hp,am,h,R,Aft.refl _ _ _⟩
theorem sndS_expr (O:EnvOk env names) {e:PySem.Expr} {i:Mine.E} {pos:Pos} (hc:notComp e = true) (h1:Snd G g C N env names r e i):SndS G g C N env names r (.Expr e pos) (.expr i):=fun σ KN KR X A s am E h rm R=>by
  dsimp only [wS_expr] at h
  refine wpAny_Expr_any (wpAny_mono (h1 σ.loc σ.hp _ X A s am h rm R) (fun v s1 z=>?_) fun zz zz z=>z.no.elim) (interactive_no O) (swaps_plain hc _ _ _)
  obtain ⟨c,p1,am1,z1,z2,z3,z4,z5⟩:=z
  exact ⟨σ.loc,p1,am1,z1,R.step z4 z3 z5,z4.weaken⟩
theorem sndS_ret {e:PySem.Expr} {i:Mine.E} {pos:Pos} (h1:Snd G g C N env names r e i):SndS G g C N env names r (.Return (some e) pos) (.ret i):=fun σ KN KR X A s am E h rm R=>by
  dsimp only [wS_ret] at h
  refine wpAny_Return_some (wpAny_mono (h1 σ.loc σ.hp _ X A s am h rm R) (fun v s1 z=>?_) fun zz zz z=>z.no.elim)
  obtain ⟨c,p1,am1,z1,z2,z3,z4,z5⟩:=z
  exact ⟨c,p1,am1,z1,z2,z3,z4.weaken,z5⟩
theorem sndS_ret0 {pos:Pos}:SndS G g C N env names r (.Return none pos) (.ret .none):=fun σ KN KR X A s am E h rm R=>by
  dsimp only [wS_ret,wE_none] at h
  exact wpAny_Return_none ⟨.none,σ.hp,am,h,.none,R.hr,Aft.refl _ _ _,R.same⟩
theorem sndS_if {c:PySem.Expr} {a b:List Stmt} {ic:Mine.E} {ia ib:Mine.S} {pos:Pos} (h1:SndT G g C N env names r c ic) (h2:SndSs G g C N env names r a ia) (h3:SndSs G g C N env names r b ib):SndS G g C N env names r (.If c a b pos) (.if_ ic ia ib):=fun σ KN KR X A s am E h rm R=>by
  dsimp only [wS_if_] at h
  refine wpAny_If (wpAny_mono (h1 σ.loc σ.hp (fun b h=>match b with | true=>wpS g C N ia ⟨σ.loc,h⟩ KN KR X | false=>wpS g C N ib ⟨σ.loc,h⟩ KN KR X) X A s am _ h rm R rfl) (fun b s1 z=>?_) fun zz zz z=>z.no.elim)
  obtain ⟨p1,am1,z1,z3,z4,z5⟩:=z
  cases b with
  | true=>exact wpAny_mono (h2 ⟨σ.loc,p1⟩ KN KR X A s1 am1 E z1 rm (R.step z4 z3 z5)) (fun zz zz y=>y.back z4.weaken) fun zz zz y=>y
  | false=>exact wpAny_mono (h3 ⟨σ.loc,p1⟩ KN KR X A s1 am1 E z1 rm (R.step z4 z3 z5)) (fun zz zz y=>y.back z4.weaken) fun zz zz y=>y
theorem sndS_raise {e c:Option PySem.Expr} {pos:Pos} {k:Nat}:SndS G g C N env names r (.Raise e c pos) (.raise k):=fun σ KN KR X A s am E h rm R=>by
  dsimp only [wS_raise] at h
  exact absurd h (rm.noX _ _)
theorem sndS_asgL (O:EnvOk env names) {e:PySem.Expr} {i:Mine.E} {x:Str} {k:NameKind} {j:Nat} {p pos:Pos} (hx:names[j]? = some (x,k)) (hk:k = .local ∨ k = .cell) (hc:notComp e = true) (h1:Snd G g C N env names r e i) :
    SndS G g C N env names r (.Assign [.Name x p] e pos) (.asg (.loc j) i):=fun σ KN KR X A s am E h rm R=>by
  dsimp only [wS_asg,wT_loc] at h
  refine wpAny_Assign_Name (wpAny_mono (h1 σ.loc σ.hp _ X A s am h rm R) (fun v s1 z=>?_) fun zz zz z=>z.no.elim) (swaps_plain hc _ _ _)
  obtain ⟨c,p1,am1,⟨z0,z1⟩,z2,z3,z4,z5⟩:=z
  exact store_ok O (R.step z4 z3 z5) hx hk z2 fun s' R' a'=>⟨_,p1,am1,z1,R',z4.weaken.trans a'⟩
set_option tactic.hygienic true in
theorem sndS_asgA (GK:GG G g) {e o:PySem.Expr} {i io:Mine.E} {f:Nat} {x:Str} {p pos:Pos} (hx:G.ws[f]? = some x) (hc:notComp e = true) (h1:Snd G g C N env names r e i) (h2:Snd G g C N env names r o io) :
    SndS G g C N env names r (.Assign [.Attribute o x p] e pos) (.asg (.attr io f) i):=fun σ KN KR X A s am E h rm R=>by
  dsimp only [wS_asg,wT_attr] at h
  refine plainObj_wpAny_Assign_Attribute (wpAny_mono (h1 σ.loc σ.hp _ X A s am h rm R) (fun v s1 z=>?_) fun zz zz z=>z.no.elim) (swaps_plain hc _ _ _)
  obtain ⟨c,p1,am1,z1,z2,z3,z4,z5⟩:=z
  have R1:=R.step z4 z3 z5
  refine wpAny_mono (h2 σ.loc p1 _ X A s1 am1 z1 rm R1) (fun ov s2 y=>?_) fun zz zz z=>z.no.elim
  obtain ⟨d,p2,am2,y1,y2,y3,y4,y5⟩:=y
  have R2:=R1.step y4 y3 y5
  cases y2 with
  | ref m=>
    dsimp only at y1
    split at y1
    · rename_i cl fs hfs
      exact setAttr_ok GK R2 hfs m hx y1.1 y1.2.1 (y4.rv z2) fun s' R' a'=>⟨_,_,am2,y1.2.2,R',(z4.trans y4).weaken.trans a'⟩
    · exact y1.elim
  | _=>exact y1.elim
end
end Mine
end
noncomputable section
namespace Mine
open PySem PySem.W PyProof.Rows
section
variable {G:Glb} {g:Genv} {C N:Oracle} {env:Env} {names:List (Str × NameKind)} {r:Nat} {s:Shared} {am:AM} {loc:Locs} {hp:Hp} {A:Around} {E:Value → Shared → Prop}
set_option tactic.hygienic true in
theorem sndS_asgI (GO:GOk G) {e o ix:PySem.Expr} {i io ii:Mine.E} {p pos:Pos} (hc:notComp e = true) (h1:Snd G g C N env names r e i) (h2:Snd G g C N env names r o io) (h3:Snd G g C N env names r ix ii) :
    SndS G g C N env names r (.Assign [.Subscript o ix p] e pos) (.asg (.idx io ii) i):=fun σ KN KR X A s am E h rm R=>by
  dsimp only [wS_asg,wT_idx] at h
  refine wpAny_Assign_Subscript (wpAny_mono (h1 σ.loc σ.hp _ X A s am h rm R) (fun v s1 z=>?_) fun zz zz z=>z.no.elim) (swaps_plain hc _ _ _)
  obtain ⟨c,p1,am1,z1,z2,z3,z4,z5⟩:=z
  have R1:=R.step z4 z3 z5
  refine wpAny_mono (h2 σ.loc p1 _ X A s1 am1 z1 rm R1) (fun ov s2 y=>?_) fun zz zz z=>z.no.elim
  obtain ⟨d,p2,am2,y1,y2,y3,y4,y5⟩:=y
  have R2:=R1.step y4 y3 y5
  refine wpAny_mono (h3 σ.loc p2 _ X A s2 am2 y1 rm R2) (fun iv s3 w=>?_) fun zz zz z=>z.no.elim
  obtain ⟨u,p3,am3,w1,w2,w3,w4,w5⟩:=w
  have R3:=R2.step w4 w3 w5
  have af:=(z4.trans y4).trans w4
  cases ha:d.asRef with
  | none=>rw [ha] at w1; exact w1.elim
  | some x=>
    rw [ha,onSome_some] at w1
    rw [asRef_some ha] at y2
    cases hx:p3[x]? with
    | none=>rw [hx] at w1; exact w1.elim
    | some ob=>
      rw [hx,Option.bind_some] at w1
      have rv:=w4.rv (y4.rv z2)
      cases y2 with
      | ref m=>
        change onSome (match ob.asL with | some xs=>u.asInt.bind fun n=>(setAt xs n c).map O.list | none=>none) _ at w1
        cases hl:ob.asL with
        | some xs=>
          rw [hl] at w1
          dsimp only at w1
          cases hu:u.asInt with
          | none=>rw [hu] at w1; exact w1.elim
          | some n=>
            rw [hu,Option.bind_some] at w1
            rw [asInt_some hu] at w2
            rw [asL_some hl] at hx
            cases hs:setAt xs n c with
            | none=>rw [hs] at w1; exact w1.elim
            | some ys=>
              rw [hs,Option.map_some,onSome_some] at w1
              obtain ⟨hb,hs⟩:=if_some (show (if 0 ≤ n ∧ n < (xs.length:Int) then some (xs.set n.toNat c) else none) = some ys from hs)
              cases hs
              cases w2 with
              | int n t=>
                have o:=w3.objs _ _ _ hx (w4.map _ _ m)
                cases o with
                | list g1 g2 g3 g4=>
                  rename_i a vs n0
                  have ln:=g2.length
                  obtain ⟨n',hn'⟩:=listObj_update g1 (fun xs=>xs.setIfInBounds n.toNat v) (us:=vs.set n.toNat v) (by simp)
                  obtain ⟨t1,t2⟩:=w3.turnList (ys:=xs.set n.toNat c) hx (w4.map _ _ m) hn' (g2.set rv n.toNat) (by simpa using g3)
                  simp only [lim] at g3
                  refine ki_setAt g1 hb.1 (by (first | lia | omega)) (by rw [List.size_toArray,← ln]; exact hb.2) ?_
                  exact ⟨_,_,am3,w1,R3.step t2 t1 ⟨w5.gens,w5.os⟩,(af.trans t2).weaken⟩
        | none=>rw [hl] at w1; exact w1.elim
end
end Mine
end
noncomputable section
namespace Mine
open PySem PySem.W PyProof.Rows
noncomputable def KeepBut (its:List Addr) (h h':Heap):Prop:=∀ b o,b ∉ its → h.get? b = some o → h'.get? b = some o
noncomputable def Dull (h:Heap) (a:Addr):Prop:=∃ o,h.get? a = some o ∧ (∀ items n,o.data ≠ .seq items n) ∧ (∀ C dx,o ≠ instObj C dx)
structure IterP (G:Glb) (it:Addr) (its:List Addr) (tg:PySem.Expr → Prop) (grd:Hp → Prop) (P:List V → Heap → AM → Prop) (P2:Value → List V → Heap → AM → Prop):Prop where
  mem:it ∈ its
  live:∀ xs h am,P xs h am → ∀ a ∈ its,Dull h a
  live2:∀ v xs h am,P2 v xs h am → ∀ a ∈ its,Dull h a
  keep:∀ xs h am h' am',P xs h am → (∀ a ∈ its,h'.get? a = h.get? a) → TupKept h h' → AM.Le am am' → P xs h' am'
  next:∀ (A:Around) (s:Shared) (am:AM) (hp:Hp) (x:V) (xs:List V) (T:Option Value → Shared → Prop) (E:Value → Shared → Prop),P (x :: xs) s.heap am → HR G am s.heap hp → grd hp →
    (∀ h' tk val,RV G.ws am h' x val → P2 val xs h' am → KeepBut its s.heap h' → T (some val) { s with heap:=h',toks:=tk }) → wpAny (model G.prog G.w) A (pyNext (.ref it)) T E s
  fin:∀ (A:Around) (s:Shared) (am:AM) (hp:Hp) (T:Option Value → Shared → Prop) (E:Value → Shared → Prop),A.handled = none → P [] s.heap am → HR G am s.heap hp → grd hp →
    (∀ h',KeepBut its s.heap h' → T none { s with heap:=h' }) → wpAny (model G.prog G.w) A (pyNext (.ref it)) T E s
  goes:∀ (A:Around) (s:Shared) (am:AM) (xs:List V) (t:PySem.Expr) (v:Value) (T:Unit → Shared → Prop) (E:Value → Shared → Prop),tg t → P2 v xs s.heap am → (∀ h',P xs h' am → KeepBut its s.heap h' → T () { s with heap:=h' }) → wpAny (model G.prog G.w) A (letOwnedTupleGo t (.ref it) v) T E s
  again:∀ (A:Around) (s:Shared) (am:AM) (xs:List V) (T:Value → Shared → Prop) (E:Value → Shared → Prop),P xs s.heap am → T (.ref it) s → wpAny (model G.prog G.w) A (pyIter (.ref it)) T E s
theorem KeepBut.refl {its:List Addr} {h:Heap}:KeepBut its h h:=fun zz zz zz e=>e
theorem KeepBut.one {it:Addr} {h h':Heap} (k:∀ b o,b ≠ it → h.get? b = some o → h'.get? b = some o):KeepBut [it] h h':=fun b o n e=>k b o (fun q=>n (by rw [q]; exact .head _)) e
theorem Aft.transBut {own:List Addr} {h h1 h2:Heap} {am am1:AM} {its:List Addr} (a:Aft own h am h1 am1) (k:KeepBut its h1 h2) (hn:∀ it ∈ its,h.get? it = none) (tk:TupKept h1 h2):Aft own h am h2 am1:=
  ⟨fun b o e n1 n2=>k b o (fun q=>by rw [hn b q] at e; cases e) (a.keep b o e n1 n2),a.tup.trans tk,a.ext,fun b e=>by
    have ne:b ∉ its:=fun q=>by rw [hn b q] at e; cases e
    have:=a.live b e
    cases c:h1.get? b with
    | none=>rw [c] at this; cases this
    | some o=>rw [k b o ne c]; rfl⟩
theorem all_one {it:Addr} {p:Addr → Prop} (h:p it):∀ a ∈ [it],p a:=fun a ha=>by rw [List.mem_singleton.mp ha]; exact h
section
variable {G:Glb} {g:Genv} {C N:Oracle} {env:Env} {names:List (Str × NameKind)} {r:Nat} {s:Shared} {am:AM} {loc:Locs} {hp:Hp} {A:Around} {E:Value → Shared → Prop}
theorem HR.keepBut {h h':Heap} (x:HR G am h hp) {its:List Addr} (k:KeepBut its h h') (hd:∀ it ∈ its,Dull h it) (hm:∀ it ∈ its,it ∉ am.muts) (hb:∀ it ∈ its,G.base.get? it = none):HR G am h' hp ∧ TupKept h h':=by
  have tk:TupKept h h':=fun b items t=>by
    obtain ⟨ob,hb,hcl,n,r⟩:=t
    exact ⟨ob,k _ _ (fun q=>by obtain ⟨o,ho,hs,_⟩:=hd b q; rw [ho] at hb; cases hb; exact hs _ _ r) hb,hcl,n,r⟩
  refine ⟨⟨x.len,x.nodup,fun i oi p h1 h2=>?_,fun b ob e=>k _ _ (fun e'=>by rw [hb b e'] at e; cases e) (x.base b ob e)⟩,tk⟩
  have n2:p.2 ∉ its:=fun e=>hm _ e (List.mem_map_of_mem (List.mem_of_getElem? h2))
  have n1:p.1 ∉ its:=fun e=>by
    obtain ⟨o,ho,_,hi⟩:=hd _ e
    exact n2 (by rw [← x.first ho hi p (List.mem_of_getElem? h2) rfl]; exact e)
  exact (x.objs i oi p h1 h2).mono tk (fun zz zz e=>e) (fun ob e=>k _ _ n1 e) (fun ob e=>k _ _ n2 e)
theorem Rel.keepBut (R:Rel G env names s am loc hp) {h':Heap} {tk:Nat} {its:List Addr} (k:KeepBut its s.heap h') (hr:HR G am h' hp) (ht:TupKept s.heap h') (ho:∀ it ∈ its,it ∉ ownA env):Rel G env names { s with heap:=h',toks:=tk } am loc hp:=by
  obtain ⟨m,F,lr⟩:=R.fr
  have kp:∀ b ∈ ownA env,∀ o,s.heap.get? b = some o → h'.get? b = some o:=fun b hb o e=>k b o (fun q=>ho b q hb) e
  have cl:∀ c x v,env.cells.lookup x = some c → s.heap.IsCell c v → h'.IsCell c v:=fun c x v hl ⟨o,ho,hd⟩=>
    ⟨o,kp c (by simp only [ownA,List.mem_cons,List.mem_map]; exact .inr ⟨(x,c),mem_of_lookup hl,rfl⟩) o ho,hd⟩
  have live:∀ b ∈ ownA env,(s.heap.get? b).isSome = true → (h'.get? b).isSome = true:=fun b hb e=>by
    cases c:s.heap.get? b with
    | none=>rw [c] at e; cases e
    | some o=>rw [kp b hb o c]; rfl
  refine ⟨hr,⟨m,⟨?_,hr.base,F.above⟩,?_⟩,R.own,?_,R.apart,fun c hc=>⟨(R.apartL c hc).1,live _ (by simp only [ownA,List.mem_cons,List.mem_map]; exact .inr ⟨c,hc,rfl⟩) (R.apartL c hc).2⟩,R.len,⟨R.same.gens,R.same.os⟩⟩
  · obtain ⟨o,es,ep,ho,r⟩:=F.ns
    exact ⟨o,es,ep,kp env.locals (by simp [ownA]) o ho,r⟩
  · intro i v e
    obtain ⟨x,k,val,h1,h2,h3⟩:=lr i v e
    refine ⟨x,k,val,h1,h2.mono ht (fun zz zz e=>e),?_⟩
    cases k <;> simp only [BindAt] at h3 ⊢
    · exact h3
    · obtain ⟨c,h4,h5⟩:=h3; exact ⟨c,h4,cl c x _ h4 h5⟩
    · obtain ⟨c,h4,h5⟩:=h3; exact ⟨c,h4,cl c x _ h4 h5⟩
  · intro x hx
    obtain ⟨c,v,h1,h2⟩:=R.cells x hx
    exact ⟨c,v,h1,cl c x v h1 h2⟩
theorem seqGone {T:String} {o:Obj} {it:Addr} {vs:Array Value} {t:PySem.Expr} {v:Value} {Q:Unit → Shared → Prop} (ho:s.heap.get? it = some o) (hc:o.cls = .type T) (hd:o.data = .fields vs)
    (hT : ["enumerate", "zip", "dict_itemiterator", "dict_reverseitemiterator", "odict_iterator", "itertools.zip_longest", "itertools.pairwise"].contains T = false) (h : Q () s) : wpAny (model G.prog G.w) A (letOwnedTupleGo t (.ref it) v) Q E s := by
  have key:∀ a,v = .ref a → wpAny (model G.prog G.w) A (do
      let o ← load it
      match o.cls,o.data with
      | .type n,.fields vs=>
        if ["enumerate", "zip", "dict_itemiterator", "dict_reverseitemiterator", "odict_iterator", "itertools.zip_longest", "itertools.pairwise"].contains n && vs[0]? == some (rawInt a) then
          rule "for.unpacks-the-owned-tuple"
          updateField it 0 .none
      | _,_=>pure ()) Q E s:=by
    intro a _
    refine wpAny_bind (wpAny_load ho ?_)
    rw [hc,hd]
    dsimp only
    rw [if_neg (by rw [hT]; simp)]
    exact wpAny_pure h
  cases t <;> first
    | exact wpAny_pure h
    | (cases v <;> first | exact wpAny_pure h | exact key _ rfl)
theorem iter_list {a:Nat} {xs:List V} {it l:Addr} (frozen:Bool) (hl:∀ p,am[a]? = some p → p.1 = l) :
    IterP G it [it] (fun zz=>True) (fun h=>h[a]? = some (if frozen then .flist xs else .list xs)) (fun ys h am'=>AM.Le am am' ∧ (∃ p,am[a]? = some p) ∧ ∃ i,ys = xs.drop i ∧ h.IsListIter it l i) (fun zz ys h am'=>AM.Le am am' ∧ (∃ p,am[a]? = some p) ∧ ∃ i,ys = xs.drop i ∧ h.IsListIter it l i) where
  mem:=.head _
  live:=fun ys h am' ⟨_,_,i,_,o,ho,hc,hd⟩=>all_one ⟨o,ho,fun zz zz q=>(by rw [q] at hd; cases hd),fun C dx e=>(by rw [e] at hd; cases hd)⟩
  live2:=fun _ ys h am' ⟨_,_,i,_,o,ho,hc,hd⟩=>all_one ⟨o,ho,fun zz zz q=>(by rw [q] at hd; cases hd),fun C dx e=>(by rw [e] at hd; cases hd)⟩
  keep:=fun ys h am' h' am'' ⟨h0,h1,i,h2,o,ho,hc,hd⟩ e _ le=>⟨fun j p q=>le _ _ (h0 j p q),h1,i,h2,o,(e it (.head _)).trans ho,hc,hd⟩
  next:=fun A s am' hp y ys T E ⟨h0,⟨p,h1⟩,i,h2,hit⟩ hr gd k=>by
    have it':(if frozen then O.flist xs else .list xs).items = some xs:=by cases frozen <;> rfl
    obtain ⟨vs,n,ob,g1,g2,g3,g4,g5⟩:=hr.items gd it' (h0 _ _ h1)
    rw [hl p h1] at g1
    have hy:xs[i]? = some y:=by
      have:=congrArg (·[0]?) h2
      simpa using this.symm
    obtain ⟨v,v1,v2⟩:=g4.get hy
    refine wpAny_pyNext_list_item hit ⟨ob,g1,g2,n,g3⟩ (x:=v) (by simpa using v1) fun h' hit' hs=>?_
    obtain ⟨oi,hoi,hic,hid⟩:=hit
    have tk:TupKept s.heap h':=fun b items t=>by
      obtain ⟨ob,hb,hcl,n,r⟩:=t
      have ne:b ≠ it:=fun q=>by rw [q,hoi] at hb; cases hb; rw [r] at hid; cases hid
      exact ⟨ob,(hs.2 b ne).trans hb,hcl,n,r⟩
    refine k h' s.toks v (v2.mono tk fun zz zz e=>e) ⟨h0,⟨p,h1⟩,i + 1,?_,hit'⟩ (.one fun b o ne e=>(hs.2 b ne).trans e)
    have:=congrArg List.tail h2
    simpa [List.tail_drop] using this
  fin:=fun A s am' hp T E hh ⟨h0,⟨p,h1⟩,i,h2,hit⟩ hr gd k=>by
    have it':(if frozen then O.flist xs else .list xs).items = some xs:=by cases frozen <;> rfl
    obtain ⟨vs,n,ob,g1,g2,g3,g4,g5⟩:=hr.items gd it' (h0 _ _ h1)
    rw [hl p h1] at g1
    have hlen:xs.length ≤ i:=by
      have:=congrArg List.length h2
      simp at this; (first | lia | omega)
    refine wpAny_pyNext_list_end hh hit ⟨ob,g1,g2,n,g3⟩ (by simp; have:=g4.length; (first | lia | omega)) fun h' he=>?_
    exact k h' (.one fun b o ne e=>he b o ne e)
  goes:=fun A s am' ys t v T E _ ⟨h0,h1,i,h2,hit⟩ k=>by
    obtain ⟨o,ho,hc,hd⟩:=hit
    exact seqGone ho hc hd (by decide) (k s.heap ⟨h0,h1,i,h2,o,ho,hc,hd⟩ .refl)
  again:=fun A s am' ys T E ⟨h0,h1,i,h2,hit⟩ k=>wpAny_pyIter_listiter hit k
end
end Mine
end
noncomputable section
namespace Mine
open PySem PySem.W PyProof.Rows
section
variable {G:Glb} {g:Genv} {C N:Oracle} {env:Env} {names:List (Str × NameKind)} {r:Nat} {s:Shared} {am:AM} {loc:Locs} {hp:Hp} {A:Around} {E:Value → Shared → Prop}
theorem iter_range {it:Addr}:IterP G it [it] (fun zz=>True) (fun zz=>True) (fun ys h zz=>∃ x n,ys = rangeL x n ∧ IsRangeIter h it x (n:Int) 1) (fun zz ys h zz=>∃ x n,ys = rangeL x n ∧ IsRangeIter h it x (n:Int) 1) where
  mem:=.head _
  live:=fun ys h am' ⟨x,n,h1,h2⟩=>all_one ⟨_,h2,fun zz zz q=>(by cases q),fun C dx e=>(by cases e)⟩
  live2:=fun _ ys h am' ⟨x,n,h1,h2⟩=>all_one ⟨_,h2,fun zz zz q=>(by cases q),fun C dx e=>(by cases e)⟩
  keep:=fun ys h am' h' am'' ⟨x,n,h1,h2⟩ e _ _=>⟨x,n,h1,(e it (.head _)).trans h2⟩
  next:=fun A s am' hp y ys T E ⟨x,n,h1,h2⟩ hr gd k=>by
    cases n with
    | zero=>simp [rangeL] at h1
    | succ n=>
      simp only [rangeL,List.cons.injEq] at h1
      obtain ⟨rfl,rfl⟩:=h1
      refine wpAny_pyNext_range_item h2 (by (first | lia | omega)) fun h' hit' hs=>?_
      refine k h' _ _ (.int x s.toks) ⟨x + 1,n,rfl,?_⟩ (.one fun b o ne e=>(hs.2 b ne).trans e)
      have:((n + 1:Nat):Int) - 1 = (n:Int):=by (first | lia | omega)
      rw [this] at hit'; exact hit'
  fin:=fun A s am' hp T E hh ⟨x,n,h1,h2⟩ hr gd k=>by
    cases n with
    | succ n=>simp [rangeL] at h1
    | zero=>exact wpAny_pyNext_range_end hh h2 (by simp) fun h' he=>k h' (.one fun b o ne e=>he b o ne e)
  goes:=fun A s am' ys t v T E _ ⟨x,n,h1,h2⟩ k=>seqGone h2 rfl rfl (by decide) (k s.heap ⟨x,n,h1,h2⟩ .refl)
  again:=fun A s am' ys T E ⟨x,n,h1,h2⟩ k=>wpAny_pyIter_rangeiter h2 k
theorem while_unroll {M:Model} {test:PySem.Expr} {body:List Stmt} {Rr:Result → Shared → Prop}
    (h:wpAny (model G.prog G.w) A (isTrue test env (eval test env)) (fun b s2=>if b then wpAny (model G.prog G.w) A (execs body env) (fun f s3=>match f with
        | .next | .cont=>codeAny (model G.prog G.w) A (.whileLoop test body [] env) Rr s3
        | .brk=>Rr (.ok .next) s3
        | .ret v=>Rr (.ok (.ret v)) s3) (fun zz zz=>False) s2 else Rr (.ok .next) s2) (fun zz zz=>False) s):codeAny (model G.prog G.w) A (.whileLoop test body [] env) Rr s:=by
  refine codeAny_of_tree ?_
  rw [Around.under_of_weight (c:=.whileLoop test body [] env) rfl]
  show wpAny _ A ((whileTurn test body [] env).onRaise (fun x=>do noteFrame x env; theTreesLotGoes x)) _ _ s
  refine wpAny_onRaise ?_
  simp only [whileTurn]
  refine wpAny_bind (wpAny_mono h (fun b s2 h2=>?_) fun zz zz x=>x.elim)
  cases b with
  | false=>
    simp only [Bool.false_eq_true,if_false] at h2 ⊢
    exact wpAny_bind (wpAny_execs_nil (wpAny_pure h2))
  | true=>
    simp only [if_true] at h2 ⊢
    refine wpAny_bind (wpAny_mono h2 (fun f s3 h3=>?_) fun zz zz x=>x.elim)
    cases f with
    | next=>exact wpAny_pure ⟨rfl,h3⟩
    | cont=>exact wpAny_pure ⟨rfl,h3⟩
    | brk=>exact wpAny_pure h3
    | ret v=>exact wpAny_pure h3
theorem for_unroll {target:PySem.Expr} {it:Value} {body:List Stmt} {Rr:Result → Shared → Prop}
    (h:wpAny (model G.prog G.w) A (pyNext it) (fun rr s1=>match rr with
      | none=>Rr (.ok .next) s1
      | some v=>wpAny (model G.prog G.w) A (letOwnedTupleGo target it v) (fun zz s1'=>wpAny (model G.prog G.w) A (assign target env v) (fun zz s2=>wpAny (model G.prog G.w) A (execs body env) (fun f s3=>match f with
        | .next | .cont=>codeAny (model G.prog G.w) A (.forLoop target it body [] env) Rr s3
        | .brk=>Rr (.ok .next) s3
        | .ret v=>Rr (.ok (.ret v)) s3) (fun zz zz=>False) s2) (fun zz zz=>False) s1') (fun zz zz=>False) s1) (fun zz zz=>False) s):codeAny (model G.prog G.w) A (.forLoop target it body [] env) Rr s:=by
  refine codeAny_of_tree ?_
  rw [Around.under_of_weight (c:=.forLoop target it body [] env) rfl]
  show wpAny _ A ((forTurn target it body [] env).onRaise (fun x=>do noteFrame x env; theTreesLotGoes x)) _ _ s
  refine wpAny_onRaise ?_
  simp only [forTurn]
  refine wpAny_bind (wpAny_standAt (wpAny_bind (wpAny_onRaise (wpAny_mono h (fun rr s1 h1=>?_) fun zz zz x=>x.elim))))
  cases rr with
  | none=>exact wpAny_pure ⟨rfl,codeAny_block (wpAny_execs_nil h1)⟩
  | some v=>
    refine wpAny_bind (wpAny_mono h1 (fun zz s1' h1'=>?_) fun zz zz x=>x.elim)
    refine wpAny_bind (wpAny_mono h1' (fun zz s2 h2=>wpAny_bind (wpAny_mono h2 (fun f s3 h3=>?_) fun zz zz x=>x.elim)) fun zz zz x=>x.elim)
    cases f with
    | next=>exact wpAny_pure ⟨rfl,h3⟩
    | cont=>exact wpAny_pure ⟨rfl,h3⟩
    | brk=>exact wpAny_pure h3
    | ret v=>exact wpAny_pure h3
end
end Mine
end
noncomputable section
namespace Mine
open PySem PySem.W PyProof.Rows
theorem folded_plain {e:PySem.Expr} (h:foldedPlain e = true) (env:Env) (x:Value):foldedSetIterable e env x = pure x:=by
  cases e <;> first | rfl | cases h
section
variable {G:Glb} {g:Genv} {C N:Oracle} {env:Env} {names:List (Str × NameKind)} {r:Nat}
theorem Aft.muts_out {own:List Addr} {h h':Heap} {am am':AM} (a:Aft own h am h' am') {x:Addr} (hx:x ∉ am.muts) (hl:(h.get? x).isSome = true):x ∉ am'.muts:=by
  obtain ⟨l,rfl,f⟩:=a.ext
  simp only [AM.muts,List.map_append,List.mem_append,not_or]
  refine ⟨hx,fun q=>?_⟩
  obtain ⟨p,hp,rfl⟩:=List.mem_map.mp q
  rw [(f p hp).2] at hl; cases hl
inductive ItStart (G:Glb) (s:Shared) (am:AM) (tg:PySem.Expr → Prop) (K:List V → (Hp → Prop) → Hp → Prop) (it:Value) (s2:Shared):Prop
  | mk (a:Addr) (its:List Addr) (xs:List V) (grd:Hp → Prop) (P:List V → Heap → AM → Prop) (P2:Value → List V → Heap → AM → Prop) (hp':Hp) (am':AM):it = .ref a → K xs grd hp' → IterP G a its tg grd P P2 → P xs s2.heap am' → HR G am' s2.heap hp' → Aft [] s.heap am s2.heap am' → (∀ x ∈ its,s.heap.get? x = none) → (∀ x ∈ its,x ∉ am'.muts) → (∀ x ∈ its,G.base.get? x = none) → Same G s2 → ItStart G s am tg K it s2
noncomputable def kTg (k:ItK) (t:PySem.Expr):Prop:=k = .enum → ∃ es n p,t = .Tuple es n p
noncomputable def SndIt (G:Glb) (g:Genv) (C N:Oracle) (env:Env) (names:List (Str × NameKind)) (r:Nat) (e:PySem.Expr) (k:ItK) (i:Mine.E):Prop:=
  ∀ (loc:Locs) (hp:Hp) (K:List V → (Hp → Prop) → Hp → Prop) (X:Nat → Hp → Prop) (A:Around) (s:Shared) (am:AM) (E:Value → Shared → Prop),
    wpE g C N loc i hp (fun v h=>onSome (itop k v h) fun p=>K p.1 p.2 h) X → Room X A r → Rel G env names s am loc hp →
    wpAny (model G.prog G.w) A (eval e env) (fun x s1=>wpAny (model G.prog G.w) A (pyIter x) (ItStart G s am (kTg k) K) E s1) E s
theorem IterP.mono {it:Addr} {its:List Addr} {tg tg':PySem.Expr → Prop} {grd:Hp → Prop} {P:List V → Heap → AM → Prop} {P2:Value → List V → Heap → AM → Prop} (ip:IterP G it its tg grd P P2) (h:∀ t,tg' t → tg t):IterP G it its tg' grd P P2:=
  ⟨ip.mem,ip.live,ip.live2,ip.keep,ip.next,ip.fin,fun A s am xs t v T E ht=>ip.goes A s am xs t v T E (h t ht),ip.again⟩
theorem fresh_out {s s1:Shared} {am am1:AM} {hp1:Hp} {a:Addr} (hr:HR G am1 s1.heap hp1) (af:Aft [] s.heap am s1.heap am1) (hn:s1.heap.get? a = none):s.heap.get? a = none ∧ a ∉ am1.muts ∧ G.base.get? a = none:=by
  refine ⟨?_,fun hm=>?_,?_⟩
  · cases c:s.heap.get? a with
    | none=>rfl
    | some o=>have:=af.live _ (by rw [c]; rfl); rw [hn] at this; cases this
  · obtain ⟨p,hp,e⟩:=List.mem_map.mp hm
    obtain ⟨-,ob,hb,-⟩:=hr.live hp
    rw [e,hn] at hb; cases hb
  · cases c:G.base.get? a with
    | none=>rfl
    | some o=>have:=hr.base _ _ c; rw [hn] at this; cases this
theorem itStart_push {s s1:Shared} {am am1:AM} {tg:PySem.Expr → Prop} {K:List V → (Hp → Prop) → Hp → Prop} {xs:List V} {grd:Hp → Prop} {P:List V → Heap → AM → Prop} {P2:Value → List V → Heap → AM → Prop} {hp1:Hp} {o:Obj} {tk:Nat} (k:K xs grd hp1) (ip:IterP G s1.heap.objs.size [s1.heap.objs.size] (fun zz=>True) grd P P2) (px:P xs (s1.heap.push o) am1) (hr:HR G am1 s1.heap hp1) (a:Aft [] s.heap am s1.heap am1) (sm:Same G s1) :
    ItStart G s am tg K (.ref s1.heap.objs.size) { s1 with heap:=s1.heap.push o,toks:=tk }:=by
  have kp:=keep_push (h:=s1.heap) o
  obtain ⟨f1,f2,f3⟩:=fresh_out hr a (get_none_of_size ..)
  exact ⟨_,_,xs,grd,P,P2,hp1,am1,rfl,k,ip.mono fun zz zz=>trivial,px,hr.keepAll kp,a.trans (Aft.ofKeep kp),all_one f1,all_one f2,all_one f3,⟨sm.gens,sm.os⟩⟩
set_option tactic.hygienic true in
theorem sndIt_seq {e:PySem.Expr} {i:Mine.E} (h1:Snd G g C N env names r e i):SndIt G g C N env names r e .seq i:=fun loc hp K X A s am E h rm R=>by
  refine wpAny_mono (h1 loc hp _ X A s am h rm R) (fun x s1 z=>?_) fun zz zz z=>z.no.elim
  obtain ⟨v,p1,am1,z1,z2,z3,z4,z5⟩:=z
  cases z2 with
  | ref m=>
    rename_i a p
    change onSome ((p1[a]?).bind fun o=>o.items.map fun xs=>(xs,fun h':Hp=>h'[a]? = some o)) _ at z1
    cases hx:p1[a]? with
    | none=>rw [hx] at z1; exact z1.elim
    | some o=>
      rw [hx] at z1
      cases o with
      | list xs=>
        obtain ⟨vs,n,ob,g1,g2,g3,g4,g5⟩:=z3.items hx rfl m
        refine wpAny_pyIter_list ⟨ob,g1,g2,n,g3⟩ ?_
        exact itStart_push z1 (iter_list (xs:=xs) (am:=am1) false (fun q hq=>by rw [m] at hq; cases hq; rfl)) ⟨fun zz zz e=>e,⟨_,m⟩,0,by simp,_,Heap.get?_push_size _ rfl,rfl,rfl⟩ z3 z4 z5
      | flist xs=>
        obtain ⟨vs,n,ob,g1,g2,g3,g4,g5⟩:=z3.items hx rfl m
        refine wpAny_pyIter_list ⟨ob,g1,g2,n,g3⟩ ?_
        exact itStart_push z1 (iter_list (xs:=xs) (am:=am1) true (fun q hq=>by rw [m] at hq; cases hq; rfl)) ⟨fun zz zz e=>e,⟨_,m⟩,0,by simp,_,Heap.get?_push_size _ rfl,rfl,rfl⟩ z3 z4 z5
      | _=>exact z1.elim
  | _=>exact z1.elim
theorem sndIt_range (GK : GG G g) (O : EnvOk env names) {e : PySem.Expr} {i : Mine.E} {p pos : Pos} (hk : env.kindOf "range" = some .globalImplicit) (hm : nsIn G.K mainGlobals "range" = some none) (hn : notStar e = true) (h1 : Snd G g C N env names r e i) :
    SndIt G g C N env names r (.Call (.Name "range" p) [e] [] pos) .range i := fun loc hp K X A s am E h rm R => by
  rw [eval_Call_plain ⟨_,_,rfl⟩]
  refine wpAny_bind (snd_builtin GK O R hk (by decide) hm (v := .type "range") (by decide +kernel) (by decide) ?_)
  refine callWith_es (P:=fun zz=>True) (by simp only [List.all_cons,hn,List.all_nil,Bool.and_true]) (fun zz zz=>keeper_type) ?_
  rw [starEach_cons hn]
  refine Calls.spliced_cons (wpAny_mono (h1 loc hp _ X A s am h rm R) (fun v s1 z=>Calls.spliced_nil ⟨trivial,?_⟩) fun zz zz z=>z.no.elim)
  obtain ⟨c,p1,am1,z1,z2,z3,z4,z5⟩:=z
  cases z2 with
  | int n t=>
    change onSome (if -1000 ≤ n ∧ n ≤ lim ∧ (0:Int) ≤ 0 ∧ (0:Int) ≤ lim then some (rangeL 0 (n - 0).toNat,fun _:Hp=>True) else none) _ at z1
    by_cases hl:-1000 ≤ n ∧ n ≤ lim
    · rw [if_pos ⟨hl.1,hl.2,by decide,by decide⟩,onSome_some,Int.sub_zero] at z1
      refine call_range_1 ?_
      have kp := keep_push (h := s1.heap) ({ cls := .type "range", data := .fields #[.int 0 s1.toks, .int n t, .int 1 (s1.toks + 1)] } : Obj)
      have sz:Builtin.Range.rangeSize 0 n 1 = (n.toNat:Int):=by rw [rangeSize_nat]; simp
      have sm:Builtin.Range.small 0 n 1 = true:=by
        exact small_one (by (first | lia | omega)) (by (first | lia | omega)) (by (first | lia | omega)) (by simp only [lim] at hl; (first | lia | omega))
      refine wpAny_pyIter_range (IsRange.new ..) sm ?_
      rw [sz]
      exact itStart_push (s1 := { s1 with heap := s1.heap.push { cls := .type "range", data := .fields #[.int 0 s1.toks, .int n t, .int 1 (s1.toks + 1)] }, toks := s1.toks + 1 + 1 }) z1 iter_range ⟨0, n.toNat, rfl, Heap.get?_push_size _ rfl⟩ (z3.keepAll kp) (z4.trans (Aft.ofKeep kp)) ⟨z5.gens, z5.os⟩
    · rw [if_neg (fun z=>hl ⟨z.1,z.2.1⟩)] at z1; exact z1.elim
  | _=>exact z1.elim
end
end Mine
end
noncomputable section
namespace Mine
open PySem PySem.W PyProof.Rows
section
variable {G:Glb} {g:Genv} {C N:Oracle} {env:Env} {names:List (Str × NameKind)} {r:Nat}
inductive SndL (G:Glb) (g:Genv) (C N:Oracle) (env:Env) (names:List (Str × NameKind)) (r:Nat):List PySem.Expr → List Mine.E → Prop
  | nil:SndL G g C N env names r [] []
  | cons {e:PySem.Expr} {i:Mine.E} {es:List PySem.Expr} {is:List Mine.E}:notStar e = true → Snd G g C N env names r e i → SndL G g C N env names r es is → SndL G g C N env names r (e :: es) (i :: is)
theorem SndL.all {env:Env} {names:List (Str × NameKind)} {es:List PySem.Expr} {is:List Mine.E} (t:SndL G g C N env names r es is):SndEs G g C N env names r es is ∧ es.all notStar = true ∧ is.length = es.length:=by
  induction t with
  | nil=>exact ⟨sndEs_nil,rfl,rfl⟩
  | cons h1 h2 t ih=>
    obtain ⟨e1,e2,e3⟩:=ih
    exact ⟨sndEs_cons h1 h2 e1,by simp only [List.all_cons,h1,e2]; rfl,congrArg Nat.succ e3⟩
end
end Mine
end
noncomputable section
namespace Mine
open PySem PySem.W PyProof.Rows
section
variable {G:Glb} {g:Genv} {C N:Oracle} {env:Env} {names:List (Str × NameKind)} {r:Nat} {am:AM}
theorem iter_back {a:Nat} {xs:List V} {it l:Addr} (hl:∀ p,am[a]? = some p → p.1 = l) :
    IterP G it [it] (fun zz=>True) (fun h=>h[a]? = some (.list xs)) (fun ys h am'=>AM.Le am am' ∧ (∃ p,am[a]? = some p) ∧ ∃ i:Nat,i ≤ xs.length ∧ ys = (xs.take i).reverse ∧ h.IsRevIter it l ((i:Int) - 1)) (fun zz ys h am'=>AM.Le am am' ∧ (∃ p,am[a]? = some p) ∧ ∃ i:Nat,i ≤ xs.length ∧ ys = (xs.take i).reverse ∧ h.IsRevIter it l ((i:Int) - 1)) where
  mem:=.head _
  live:=fun ys h am' ⟨_,_,i,_,_,o,ho,hc,hd⟩=>all_one ⟨o,ho,fun zz zz q=>(by rw [q] at hd; cases hd),fun C dx e=>(by rw [e] at hd; cases hd)⟩
  live2:=fun _ ys h am' ⟨_,_,i,_,_,o,ho,hc,hd⟩=>all_one ⟨o,ho,fun zz zz q=>(by rw [q] at hd; cases hd),fun C dx e=>(by rw [e] at hd; cases hd)⟩
  keep:=fun ys h am' h' am'' ⟨h0,h1,i,hi,h2,o,ho,hc,hd⟩ e _ le=>⟨fun j p q=>le _ _ (h0 j p q),h1,i,hi,h2,o,(e it (.head _)).trans ho,hc,hd⟩
  next:=fun A s am' hp y ys T E ⟨h0,⟨p,h1⟩,i,hi,h2,hit⟩ hr gd k=>by
    obtain ⟨vs,n,ob,g1,g2,g3,g4,g5⟩:=hr.items gd rfl (h0 _ _ h1)
    rw [hl p h1] at g1
    cases i with
    | zero=>cases h2
    | succ i=>
      have hlt:i < xs.length:=hi
      rw [List.take_succ_eq_append_getElem hlt,List.reverse_append,List.reverse_singleton,List.singleton_append,List.cons.injEq] at h2
      obtain ⟨hy,h2⟩:=h2
      obtain ⟨v,v1,v2⟩:=g4.get (List.getElem?_eq_getElem hlt)
      rw [show ((i + 1:Nat):Int) - 1 = (i:Int) by (first | lia | omega)] at hit
      refine wpAny_pyNext_rev_item hit ⟨ob,g1,g2,n,g3⟩ (x:=v) (by simpa using v1) fun h' hit' hs=>?_
      obtain ⟨oi,hoi,hic,hid⟩:=hit
      have tk:TupKept s.heap h':=fun b items t=>by
        obtain ⟨ob,hb,hcl,n,r⟩:=t
        have ne:b ≠ it:=fun q=>by rw [q,hoi] at hb; cases hb; rw [r] at hid; cases hid
        exact ⟨ob,(hs.2 b ne).trans hb,hcl,n,r⟩
      exact k h' s.toks v (hy ▸ v2.mono tk fun zz zz e=>e) ⟨h0,⟨p,h1⟩,i,Nat.le_of_lt hlt,h2,hit'⟩ (.one fun b o ne e=>(hs.2 b ne).trans e)
  fin:=fun A s am' hp T E hh ⟨h0,⟨p,h1⟩,i,hi,h2,hit⟩ hr gd k=>by
    cases i with
    | zero=>exact wpAny_pyNext_rev_end hh hit fun h' he=>k h' (.one fun b o ne e=>he b o ne e)
    | succ i=>
      have:=congrArg List.length h2
      rw [List.length_reverse,List.length_take,List.length_nil] at this
      (first | lia | omega)
  goes:=fun A s am' ys t v T E _ ⟨h0,h1,i,hi,h2,hit⟩ k=>by
    obtain ⟨o,ho,hc,hd⟩:=hit
    exact seqGone ho hc hd (by decide) (k s.heap ⟨h0,h1,i,hi,h2,o,ho,hc,hd⟩ .refl)
  again:=fun A s am' ys T E ⟨h0,h1,i,hi,h2,hit⟩ k=>wpAny_pyIter_revIter hit k
set_option tactic.hygienic true in
theorem sndIt_back (GK : GG G g) (O : EnvOk env names) {e : PySem.Expr} {i : Mine.E} {p pos : Pos} (hk : env.kindOf "reversed" = some .globalImplicit) (hm : nsIn G.K mainGlobals "reversed" = some none) (hn : notStar e = true) (h1 : Snd G g C N env names r e i) :
    SndIt G g C N env names r (.Call (.Name "reversed" p) [e] [] pos) .rev i := fun loc hp K X A s am E h rm R => by
  rw [eval_Call_plain ⟨_,_,rfl⟩]
  refine wpAny_bind (snd_builtin GK O R hk (by decide) hm (v := .type "reversed") (by decide +kernel) (by decide) ?_)
  refine callWith_es (P:=fun zz=>True) (by simp only [List.all_cons,hn,List.all_nil,Bool.and_true]) (fun zz zz=>keeper_type) ?_
  rw [starEach_cons hn]
  refine Calls.spliced_cons (wpAny_mono (h1 loc hp _ X A s am h rm R) (fun v s1 z=>Calls.spliced_nil ⟨trivial,?_⟩) fun zz zz z=>z.no.elim)
  obtain ⟨c,p1,am1,z1,z2,z3,z4,z5⟩:=z
  cases z2 with
  | ref m=>
    rename_i a q
    change onSome (((p1[a]?).bind Mine.O.asL).map fun xs=>(xs.reverse,fun h':Hp=>h'[a]? = some (.list xs))) _ at z1
    cases hx:p1[a]? with
    | none=>rw [hx] at z1; exact z1.elim
    | some o=>
      rw [hx,Option.bind_some] at z1
      cases hi:o.asL with
      | none=>rw [hi] at z1; exact z1.elim
      | some xs=>
        rw [hi,Option.map_some,onSome_some] at z1
        rw [asL_some hi] at hx
        obtain ⟨vs,n,ob,g1,g2,g3,g4,g5⟩:=z3.items hx rfl m
        refine call_reversed_list ⟨ob,g1,g2,n,g3⟩ ?_
        have hit:(s1.heap.push (revObj q.1 ((vs.toArray.size:Int) - 1))).IsRevIter s1.heap.objs.size q.1 ((xs.length:Int) - 1):=⟨_,Heap.get?_push_size _ rfl,rfl,by rw [g4.length,← List.size_toArray]; rfl⟩
        refine wpAny_pyIter_revIter hit ?_
        exact itStart_push z1 (iter_back (xs:=xs) (am:=am1) (a:=a) (l:=q.1) (fun q' hq=>by rw [m] at hq; cases hq; rfl)) ⟨fun zz zz e=>e,⟨_,m⟩,xs.length,Nat.le_refl _,by rw [List.take_length],hit⟩ z3 z4 z5
  | tup _ _ _=>exact z1.elim
  | _=>exact z1.elim
end
end Mine
end
noncomputable section
namespace Mine
open PySem PySem.W PyProof.Rows
section
variable {G:Glb} {g:Genv} {C N:Oracle} {env:Env} {names:List (Str × NameKind)} {r:Nat}
noncomputable def SndTgt (G:Glb) (b:Bool) (env:Env) (names:List (Str × NameKind)) (t:PySem.Expr) (is:List Nat):Prop:=
  ∀ (A:Around) (s:Shared) (am:AM) (loc loc':Locs) (hp:Hp) (v:V) (val:Value) (T:Unit → Shared → Prop) (E:Value → Shared → Prop),A.handled = none → bindT is v loc = some loc' → RV G.ws am s.heap v val → Rel G env names s am loc hp →
    (∀ s',Rel G env names s' am loc' hp → Aft (ownB env b) s.heap am s'.heap am → T () s') → wpAny (model G.prog G.w) A (assign t env val) T E s
theorem tgt_name {b:Bool} (O:EnvOk env names) {x:Str} {k:NameKind} {j:Nat} {p:Pos} (hx:names[j]? = some (x,k)) (hk:kB b k):SndTgt G b env names (.Name x p) [j]:=fun A s am loc loc' hp v val T E zz hb rv R h=>by
  simp only [bindT] at hb
  split at hb
  · cases hb
    exact wpAny_assign_Name (store_own O R hx hk rv h)
  · cases hb
inductive TgNames (b:Bool) (names:List (Str × NameKind)):List PySem.Expr → List Nat → Prop
  | nil:TgNames b names [] []
  | cons {x:Str} {k:NameKind} {j:Nat} {p:Pos} {es:List PySem.Expr} {is:List Nat}:names[j]? = some (x,k) → kB b k → TgNames b names es is → TgNames b names (.Name x p :: es) (j :: is)
theorem TgNames.len {b:Bool} {es:List PySem.Expr} {is:List Nat} (t:TgNames b names es is):(assignEach es env).length = is.length ∧ (assignEach es env).findIdx? (·.1) = none:=by
  induction t with
  | nil=>exact ⟨rfl,rfl⟩
  | cons h1 h2 t ih=>
    refine ⟨congrArg Nat.succ ih.1,?_⟩
    show List.findIdx? (·.1) ((false,_) :: assignEach _ env) = none
    rw [List.findIdx?_cons]; simp [ih.2]
theorem bindAll_len {is:List Nat}:∀ {vs:List V} {l l':Locs},bindAll is vs l = some l' → is.length = vs.length:=by
  induction is with
  | nil=>intro vs l l' h; cases vs with
    | nil=>rfl
    | cons _ _=>cases h
  | cons i is ih=>intro vs l l' h; cases vs with
    | nil=>cases h
    | cons v vs=>
      obtain ⟨_,h⟩:=if_some (show (if i < l.length then bindAll is vs (l.set i (some v)) else none) = some l' from h)
      exact congrArg Nat.succ (ih h)
theorem tg_all {b:Bool} (O:EnvOk env names) {A:Around} {E:Value → Shared → Prop} {es:List PySem.Expr} {is:List Nat} (t:TgNames b names es is):∀ {s:Shared} {am:AM} {loc loc':Locs} {hp:Hp} {vs:List V} {vals:List Value} {T:Unit → Shared → Prop},bindAll is vs loc = some loc' → RVs G.ws am s.heap vs vals → Rel G env names s am loc hp →
    (∀ s',Rel G env names s' am loc' hp → Aft (ownB env b) s.heap am s'.heap am → T () s') → wpAny (model G.prog G.w) A (assignInOrder ((assignEach es env).map (·.2)) vals) T E s:=by
  induction t with
  | nil=>
    intro s am loc loc' hp vs vals T hb rv R h
    cases rv with
    | nil=>cases hb; exact wpAny_pure (h s R (Aft.refl _ _ _))
    | cons _ _=>cases hb
  | cons h1 h2 t ih=>
    intro s am loc loc' hp vs vals T hb rv R h
    cases rv with
    | nil=>cases hb
    | cons r1 r2=>
      obtain ⟨_,hb⟩:=if_some hb
      change wpAny _ _ (assignInOrder (assign (.Name _ _) env :: (assignEach _ env).map (·.2)) _) _ _ _
      rw [assignInOrder]
      refine wpAny_bind (wpAny_holding (wpAny_assign_Name (store_own O R h1 h2 r1 fun s1 R1 a1=>?_)))
      exact ih hb (a1.rvs r2) R1 fun s' R' a'=>h s' R' (a1.trans a')
set_option tactic.hygienic true in
theorem bindT_tup {is:List Nat} {vs:List V} {l:Locs} (h:2 ≤ is.length):bindT is (.tup vs) l = bindAll is vs l:=by
  unfold bindT
  split
  · simp at h
  · rename_i e; cases e; rfl
  · rename_i h1 h2; exact absurd rfl (h2 _)
theorem tgt_tuple {b:Bool} (O:EnvOk env names) {es:List PySem.Expr} {is:List Nat} {k:Nat} {p:Pos} (t:TgNames b names es is) (h2:2 ≤ is.length):SndTgt G b env names (.Tuple es k p) is:=fun A s am loc loc' hp v val T E hh hb rv R h=>by
  have hb':∃ vs,v = .tup vs ∧ bindAll is vs loc = some loc':=by
    unfold bindT at hb
    split at hb
    · simp at h2
    · exact ⟨_,rfl,hb⟩
    · cases hb
  obtain ⟨vs,rfl,hb'⟩:=hb'
  cases rv with
  | tup i rs l=>
    have ln:=rs.length
    have bl:=bindAll_len hb'
    refine assign_Tuple_tuple hh i (by rw [(t.len (env:=env)).1,List.size_toArray,← ln,bl]) (t.len (env:=env)).2 fun h' he=>?_
    have kp:∀ b o,s.heap.get? b = some o → h'.get? b = some o:=fun b o e=>he b o (fun q=>by rw [q,get_none_of_size] at e; cases e) e
    have R':Rel G env names { s with heap:=h' } am loc hp:=R.step (s':={ s with heap:=h' }) (Aft.ofKeep kp) (R.hr.keepAll kp) ⟨R.same.gens,R.same.os⟩
    have af:Aft (ownB env b) s.heap am h' am:=Aft.ofKeep kp
    exact tg_all O t hb' (s:={ s with heap:=h' }) (af.rvs rs) R' fun s' R'' a'=>h s' R'' (af.trans a')
set_option tactic.hygienic true in
theorem sndS_asgU (O:EnvOk env names) {e:PySem.Expr} {i:Mine.E} {es:List PySem.Expr} {is:List Nat} {k:Nat} {p pos:Pos} (t:TgNames false names es is) (h2:2 ≤ is.length) (hc:notComp e = true) (ht:notTuple e = true) (h1:Snd G g C N env names r e i) :
    SndS G g C N env names r (.Assign [.Tuple es k p] e pos) (.asg (.unp is) i):=fun σ KN KR X A s am E h rm R=>by
  dsimp only [wS_asg,wT_unp] at h
  refine Assign_Tuple (wpAny_mono (h1 σ.loc σ.hp _ X A s am h rm R) (fun v s1 z=>?_) fun zz zz z=>z.no.elim) (swaps_plain hc (some (.Tuple es k p)) pos.line env) (by cases e <;> first | rfl | cases ht)
  obtain ⟨c,p1,am1,z1,z2,z3,z4,z5⟩:=z
  cases z2 with
  | tup i rs l=>
    rename_i xs _ _
    dsimp only at z1
    cases hb:bindAll is xs σ.loc with
    | none=>rw [hb] at z1; exact z1.elim
    | some l'=>
      rw [hb,onSome_some] at z1
      exact tgt_tuple O t h2 A s1 am1 σ.loc l' p1 (.tup xs) _ _ _ rm.handled (by rw [bindT_tup h2]; exact hb) (.tup i rs l) (R.step z4 z3 z5) fun s' R' a'=>⟨l',p1,am1,z1,R',z4.weaken.trans a'⟩
  | _=>exact z1.elim
end
end Mine
end
noncomputable section
namespace Mine
open PySem PySem.W PyProof.Rows
section
variable {G:Glb} {g:Genv} {C N:Oracle} {env:Env} {names:List (Str × NameKind)} {r:Nat}
theorem IterP.after {it:Addr} {its:List Addr} {tg:PySem.Expr → Prop} {grd:Hp → Prop} {P:List V → Heap → AM → Prop} {P2:Value → List V → Heap → AM → Prop} (ip:IterP G it its tg grd P P2) {xs:List V} {h h':Heap} {am am':AM} (p:P xs h am) {own:List Addr} (a:Aft own h am h' am') (h1:∀ x ∈ its,x ∉ own) (h2:∀ x ∈ its,x ∉ am.muts):P xs h' am':=
  ip.keep _ _ _ _ _ p (fun x hx=>by obtain ⟨o,ho,_⟩:=ip.live _ _ _ p x hx; exact (a.keep x o ho (h1 x hx) (h2 x hx)).trans ho.symm) a.tup a.map
theorem IterP.out {it:Addr} {its:List Addr} {tg:PySem.Expr → Prop} {grd:Hp → Prop} {P:List V → Heap → AM → Prop} {P2:Value → List V → Heap → AM → Prop} (ip:IterP G it its tg grd P P2) {xs:List V} {h h':Heap} {am am':AM} (p:P xs h am) {own:List Addr} (a:Aft own h am h' am') (h2:∀ x ∈ its,x ∉ am.muts):∀ x ∈ its,x ∉ am'.muts:=fun x hx=>
  a.muts_out (h2 x hx) (by obtain ⟨o,ho,_⟩:=ip.live _ _ _ p x hx; rw [ho]; rfl)
theorem for_run {A:Around} {X:Nat → Hp → Prop} {target:PySem.Expr} {body:List Stmt} {is:List Nat} {ib:Mine.S} {a:Addr} {its:List Addr} {tg:PySem.Expr → Prop} {grd:Hp → Prop} {P:List V → Heap → AM → Prop} {P2:Value → List V → Heap → AM → Prop} {KN:St → Prop} {KR:V → Hp → Prop} {s0:Shared} {am0:AM} {Er:Value → Shared → Prop}
    (ip:IterP G a its tg grd P P2) (htg:tg target) (ht:SndTgt G false env names target is) (hb:SndSs G g C N env names r body ib) (rm:Room X A r) (hao:∀ x ∈ its,x ∉ ownA env) (hab:∀ x ∈ its,G.base.get? x = none) (ha0:∀ x ∈ its,s0.heap.get? x = none) :
    ∀ (xs:List V) (σ:St) (s:Shared) (am:AM),forWp grd (fun x σ K=>onSome (bindT is x σ.loc) fun l=>wpS g C N ib ⟨l,σ.hp⟩ K KR X) xs σ KN → P xs s.heap am → Rel G env names s am σ.loc σ.hp → (∀ x ∈ its,x ∉ am.muts) → Aft (ownA env) s0.heap am0 s.heap am →
      codeAny (model G.prog G.w) A (.forLoop target (.ref a) body [] env) (fun res s'=>match res with | .ok f=>SP G env names s0 am0 KN KR f s' | .error e=>Er e s') s:=by
  intro xs
  induction xs with
  | nil=>
    intro σ s am h p R hm af
    obtain ⟨gd,kn⟩:=h
    refine for_unroll (ip.fin A s am σ.hp _ _ rm.handled p R.hr gd fun h' k=>?_)
    obtain ⟨hr',tk⟩:=R.hr.keepBut k (ip.live _ _ _ p) hm hab
    exact ⟨σ.loc,σ.hp,am,kn,R.keepBut (tk:=s.toks) k hr' tk hao,af.transBut k ha0 tk⟩
  | cons x xs ih=>
    intro σ s am h p R hm af
    obtain ⟨gd,st⟩:=h
    refine for_unroll (ip.next A s am σ.hp x xs _ _ p R.hr gd fun h' tk val rv p' k=>?_)
    obtain ⟨hr',tkp⟩:=R.hr.keepBut k (ip.live _ _ _ p) hm hab
    have R1:=R.keepBut (tk:=tk) k hr' tkp hao
    have af1:=af.transBut k ha0 tkp
    refine ip.goes A { s with heap:=h',toks:=tk } am xs target val _ _ htg p' fun h'' p'' k''=>?_
    obtain ⟨hr'',tkp''⟩:=hr'.keepBut k'' (ip.live2 _ _ _ _ p') hm hab
    have R2:=R1.keepBut (tk:=tk) k'' hr'' tkp'' hao
    have af2:=af1.transBut k'' ha0 tkp''
    cases hbt:bindT is x σ.loc with
    | none=>rw [hbt] at st; exact st.elim
    | some l=>
      rw [hbt,onSome_some] at st
      refine ht A _ am σ.loc l σ.hp x val _ _ rm.handled hbt (rv.mono tkp'' fun zz zz e=>e) R2 fun s3 R3 a3=>?_
      have p3:=ip.after p'' a3 hao hm
      have hm3:=ip.out p'' a3 hm
      refine wpAny_mono (hb ⟨l,σ.hp⟩ _ KR X A s3 am _ st rm R3) (fun fl s4 z=>?_) fun zz zz z=>z
      cases fl with
      | next=>
        obtain ⟨l4,hp4,am4,z1,z2,z3⟩:=z
        exact ih ⟨l4,hp4⟩ s4 am4 z1 (ip.after p3 z3 hao hm3) z2 (ip.out p3 z3 hm3) ((af2.trans a3).trans z3)
      | ret v=>exact SP.back (fl:=.ret v) (af2.trans a3) z
      | brk=>exact z.elim
      | cont=>exact z.elim
theorem sndS_for {target iter:PySem.Expr} {body:List Stmt} {k:ItK} {is:List Nat} {i:Mine.E} {ib:Mine.S} {pos:Pos} (hf:foldedPlain iter = true) (htg:kTg k target) (hi:SndIt G g C N env names r iter k i) (ht:SndTgt G false env names target is) (hb:SndSs G g C N env names r body ib) :
    SndS G g C N env names r (.For target iter body [] pos) (.for_ is k i ib):=fun σ KN KR X A s am E h rm R=>by
  dsimp only [wS_for_] at h
  refine wpAny_For (wpAny_mono (hi σ.loc σ.hp (fun xs grd h=>forWp grd (fun x σ K=>onSome (bindT is x σ.loc) fun l=>wpS g C N ib ⟨l,σ.hp⟩ K KR X) xs ⟨σ.loc,h⟩ KN) X A s am E h rm R) (fun x s1 z=>wpAny_mono z (fun it s2 y=>?_) fun zz zz y=>y) fun zz zz z=>z) (folded_plain hf _)
  obtain ⟨a,its,xs,grd,P,P2,hp',am',rfl,y1,ip,y2,y3,y4,y5,y6,y7,y8⟩:=y
  have hao:∀ x ∈ its,x ∉ ownA env:=fun x hx q=>by
    have:(s.heap.get? x).isSome = true:=by
      simp only [ownA,List.mem_cons,List.mem_map] at q
      rcases q with e | ⟨c,hc,e⟩
      · obtain ⟨m,F,_⟩:=R.fr
        obtain ⟨o,es,ep,ho,_⟩:=F.ns; rw [e,ho]; rfl
      · rw [← e]; exact (R.apartL c hc).2
    rw [y5 x hx] at this; cases this
  exact for_run ip htg ht hb rm hao y7 y5 xs ⟨σ.loc,hp'⟩ s2 am' y1 y2 (R.step y4 y3 y8) y6 y4.weaken
theorem sndS_while {test:PySem.Expr} {body:List Stmt} {ic:Mine.E} {ib:Mine.S} {pos:Pos} (h1:SndT G g C N env names r test ic) (h2:SndSs G g C N env names r body ib):SndS G g C N env names r (.While test body [] pos) (.while_ ic ib):=fun σ KN KR X A s am E h rm R=>by
  dsimp only [wS_while_] at h
  refine wpAny_While ?_
  have key:∀ (s1:Shared) (am1:AM),Rel G env names s1 am1 σ.loc σ.hp → Aft (ownA env) s.heap am s1.heap am1 → codeAny (model G.prog G.w) A (.whileLoop test body [] env) (fun res s'=>match res with | .ok f=>SP G env names s am KN KR f s' | .error e=>cameBackBy (model G.prog G.w) A env E e s') s1:=by
    refine h (fun σ=>∀ (s1:Shared) (am1:AM),Rel G env names s1 am1 σ.loc σ.hp → Aft (ownA env) s.heap am s1.heap am1 → codeAny (model G.prog G.w) A (.whileLoop test body [] env) (fun res s'=>match res with | .ok f=>SP G env names s am KN KR f s' | .error e=>cameBackBy (model G.prog G.w) A env E e s') s1) fun σ1 hw s1 am1 R1 a1=>?_
    refine while_unroll (M:=model G.prog G.w) (wpAny_mono (h1 σ1.loc σ1.hp (fun b h=>match b with | true=>wpS g C N ib ⟨σ1.loc,h⟩ _ KR X | false=>KN ⟨σ1.loc,h⟩) X A s1 am1 _ hw rm R1 rfl) (fun b s2 z=>?_) fun zz zz z=>z.no)
    obtain ⟨p1,am2,z1,z3,z4,z5⟩:=z
    have R2:=R1.step z4 z3 z5
    have a2:Aft (ownA env) s.heap am s2.heap am2:=a1.trans z4.weaken
    cases b with
    | false=>exact ⟨σ1.loc,p1,am2,z1,R2,a2⟩
    | true=>
      refine wpAny_mono (h2 ⟨σ1.loc,p1⟩ _ KR X A s2 am2 _ z1 rm R2) (fun fl s3 y=>?_) fun zz zz y=>y
      cases fl with
      | next=>
        obtain ⟨l,hp,am3,y1,y2,y3⟩:=y
        exact y1 s3 am3 y2 (a2.trans y3)
      | ret v=>exact SP.back (fl:=.ret v) a2 y
      | brk=>exact y.elim
      | cont=>exact y.elim
  exact key s am R (Aft.refl _ _ _)
end
end Mine
end
noncomputable section
namespace Mine
open PySem PySem.W PyProof.Rows
theorem lookup_zip_some {ps:List Str}:∀ {vals:List Value},vals.length = ps.length → ∀ x ∈ ps,((ps.zip vals).lookup x).isSome = true:=by
  induction ps with
  | nil=>intro _ _ x hx; cases hx
  | cons p ps ih=>
    intro vals hl x hx
    cases vals with
    | nil=>cases hl
    | cons v vs=>
      simp only [List.zip_cons_cons,List.lookup_cons]
      cases hb:x == p with
      | true=>rfl
      | false=>
        rcases List.mem_cons.mp hx with e | e
        · rw [e,beq_self_eq_true] at hb; cases hb
        · exact ih (by simpa using hl) x e
theorem filterMap_same {α β:Type} {f g:α → Option β}:∀ {l:List α},(∀ x ∈ l,f x = g x) → l.filterMap f = l.filterMap g
  | [],_=>rfl
  | a :: l,h=>by rw [List.filterMap_cons,List.filterMap_cons,h a (.head _),filterMap_same fun x hx=>h x (.tail _ hx)]
theorem filterMap_zip {ps:List Str}:∀ {vals:List Value},vals.length = ps.length → ps.Nodup → (ps.filterMap fun n=>((ps.zip vals).lookup n).map (n,·)) = ps.zip vals:=by
  induction ps with
  | nil=>intro vals _ _; rfl
  | cons p ps ih=>
    intro vals hl hn
    cases vals with
    | nil=>cases hl
    | cons v vs=>
      rw [List.nodup_cons] at hn
      simp only [List.zip_cons_cons,List.filterMap_cons,List.lookup_cons,beq_self_eq_true,Option.map_some]
      congr 1
      refine Eq.trans (filterMap_same fun x hx=>?_) (ih (by simpa using hl) hn.2)
      have:(x == p) = false:=by
        cases hb:x == p with
        | false=>rfl
        | true=>rw [beq_iff_eq] at hb; subst hb; exact absurd hx hn.1
      rw [this]
theorem fm_zip {ps:List Str} {vals:List Value} (hl:vals.length = ps.length) (hn:ps.Nodup):((ps ++ []).filterMap fun n=>((ps.zip vals).lookup n).map (n,·)) = ps.zip vals:=by rw [List.append_nil]; exact filterMap_zip hl hn
theorem sem_pb {α β:Type} (a:α) (f:α → Sem β):(pure a >>= f) = f a:=rfl
theorem plain_inv {p:Arguments} {ps:List Str} (h:plainPs p = some ps):∃ as kd d,p = ⟨[],as,none,[],kd,none,d⟩ ∧ ps = as.map (·.arg):=by
  obtain ⟨po,as,va,ko,kd,ka,d⟩:=p
  obtain ⟨h1,h2⟩:=if_some h
  cases po with
  | cons _ _=>cases h1
  | nil=>cases va with
    | some _=>cases h1
    | none=>cases ko with
      | cons _ _=>cases h1
      | nil=>cases ka with
        | some _=>cases h1
        | none=>exact ⟨as,kd,d,rfl,(Option.some.inj h2).symm⟩
theorem miss_none {ps:List Str} {vals:List Value} (hl:vals.length = ps.length):((ps.take (ps.length - 0)).filter fun n=>((ps.zip vals).lookup n).isNone) = []:=List.filter_eq_nil_iff.mpr fun x hx=>by
  have:=lookup_zip_some hl x (List.mem_of_mem_take hx)
  rw [Option.isSome_iff_exists] at this
  obtain ⟨v,e⟩:=this
  rw [e]; exact Bool.false_ne_true
set_option tactic.hygienic true in
theorem bindArgs_plain {fd:FuncData} {ps:List Str} {vals:List Value} (hp:plainPs fd.params = some ps) (hd:fd.defaults = .none) (hl:vals.length = ps.length) (hn:ps.Nodup) :
    bindArgs fd ⟨vals,[]⟩ = pure (ps.zip vals):=by
  obtain ⟨as,kd,d,e,rfl⟩:=plain_inv hp
  obtain ⟨f1,f2,f3,f4,f5,f6,f7,f8,f9,f10,f11,f12,f13,f14,f15⟩:=fd
  cases e
  cases hd
  have h2:=miss_none hl
  have h3:=fm_zip hl hn
  refine (show bindArgs _ _ = (if (decide (vals.length > (as.map fun x:Arg=>x.arg).length) && true) = true then _ else _) from rfl).trans ((if_neg (by rw [decide_eq_false (Nat.not_lt.mpr (Nat.le_of_eq hl))]; exact Bool.false_ne_true)).trans ?_)
  rw [show ∀ n,List.drop n ((none:Option (Array Value)).getD #[]).toList = [] from fun zz=>List.drop_nil]
  refine (if_neg fun z=>Bool.false_ne_true ((congrArg (fun l:List Str=>!l.isEmpty) h2).symm.trans z)).trans ?_
  rw [show ∀ l:List Str,l.zip ([]:List Value) = [] from fun zz=>List.zip_nil_right]
  exact congrArg (pure:List (Str × Value) → Sem (List (Str × Value))) h3
end Mine
end
noncomputable section
namespace Mine
open PySem PySem.W PyProof.Rows
theorem bindL_out {kf:Str → Option NameKind} {x:Str}:∀ {l:List (Str × Value)} {m:Str → Option Value},x ∉ l.map (·.1) → bindL kf l m x = m x
  | [],_,_=>rfl
  | (n,v) :: r,m,h=>by
    simp only [List.map_cons,List.mem_cons,not_or] at h
    unfold bindL
    rw [bindL_out h.2]
    split
    · simp [h.1]
    · rfl
theorem bindC_out {kf:Str → Option NameKind} {x:Str}:∀ {l:List (Str × Value)} {m:Str → Option Value},x ∉ l.map (·.1) → bindC kf l m x = m x
  | [],_,_=>rfl
  | (n,v) :: r,m,h=>by
    simp only [List.map_cons,List.mem_cons,not_or] at h
    unfold bindC
    rw [bindC_out h.2]
    split
    · rfl
    · simp [h.1]
theorem bindL_in {kf:Str → Option NameKind} {x:Str} {v:Value} (hk:kf x = some .local):∀ {l:List (Str × Value)} {m:Str → Option Value},(l.map (·.1)).Nodup → (x,v) ∈ l → bindL kf l m x = some v
  | (n,u) :: r,m,hn,h=>by
    simp only [List.map_cons,List.nodup_cons] at hn
    unfold bindL
    rcases List.mem_cons.mp h with e | e
    · cases e
      rw [bindL_out hn.1,if_pos hk]; simp
    · exact bindL_in hk hn.2 e
theorem bindC_in {kf:Str → Option NameKind} {x:Str} {v:Value} (hk:kf x = some .cell):∀ {l:List (Str × Value)} {m:Str → Option Value},(l.map (·.1)).Nodup → (x,v) ∈ l → bindC kf l m x = some v
  | (n,u) :: r,m,hn,h=>by
    simp only [List.map_cons,List.nodup_cons] at hn
    unfold bindC
    rcases List.mem_cons.mp h with e | e
    · cases e
      rw [bindC_out hn.1,if_neg (by rw [hk]; decide)]; simp
    · exact bindC_in hk hn.2 e
theorem cellsFrom_names:∀ (names:List (Str × NameKind)) (n:Nat) (acc:List (Str × Addr)),(cellsFrom n names acc).map (·.1) = (((names.filter fun p=>p.2 == .cell).map (·.1)).reverse ++ acc.map (·.1))
  | [],n,acc=>rfl
  | (x,k) :: r,n,acc=>by
    unfold cellsFrom
    by_cases h:(k == .cell) = true
    · rw [if_pos h,cellsFrom_names r]
      simp [h]
    · rw [if_neg h,cellsFrom_names r]
      simp [h]
theorem lookup_of_mem {α:Type}:∀ {l:List (Str × α)} {x:Str} {v:α},(l.map (·.1)).Nodup → (x,v) ∈ l → l.lookup x = some v
  | (n,u) :: r,x,v,hn,h=>by
    simp only [List.map_cons,List.nodup_cons] at hn
    rw [List.lookup_cons]
    rcases List.mem_cons.mp h with e | e
    · cases e; simp
    · have:(x == n) = false:=by
        cases hb:x == n with
        | false=>rfl
        | true=>rw [beq_iff_eq] at hb; subst hb; exact absurd (List.mem_map_of_mem (f:=(·.1)) e) hn.1
      rw [this]; exact lookup_of_mem hn.2 e
theorem envOk_of {env:Env} {names:List (Str × NameKind)} (h:slotsOk names env.scope = true) (hk:env.scope.kind = .function) (hg:env.globals = mainGlobals) (hb:env.builtins = builtinsNs):EnvOk env names:=by
  simp only [slotsOk,Bool.and_eq_true,List.all_eq_true,decide_eq_true_eq] at h
  refine ⟨hk,hg,hb,fun i x k e=>?_,h.2⟩
  have q:=h.1 _ (List.mem_of_getElem? e)
  simp only [beq_iff_eq,kindL,Bool.or_eq_true,Bool.not_eq_true'] at q
  refine ⟨q.1.1.1,?_,q.1.2,q.2⟩
  rcases q.1.1.2 with (z | z) | z <;> simp [z]
section
variable {G:Glb} {g:Genv} {C N:Oracle} {r:Nat}
structure Entry (G:Glb) (names:List (Str × NameKind)) (scope:Scope) (cdv:Value) (qual:Str) (s:Shared) (am:AM) (loc:Locs) (hp:Hp) (X:Nat → Hp → Prop) (A:Around) (r:Nat) (env:Env) (s₁:Shared):Prop where
  O:EnvOk env names
  sc:env.scope = scope
  fr:env.frame = some env.locals
  cd:env.code = cdv
  qu : env.qual = qual ++ ".<locals>."
  R:Rel G env names s₁ am loc hp
  own:∀ b ∈ ownA env,s.heap.get? b = none
  kp:∀ b o,s.heap.get? b = some o → s₁.heap.get? b = some o
  rm:Room X (A.deeper env) r
theorem frame_in (GK:GG G g) {a:Addr} {name qual:Str} {params:Arguments} {body:List Stmt} {scope:Scope} {kV doc pm cdv ct oc:Value} {an od:Option Addr} {osl:Array (Option Value)} {ps:List Str} {names:List (Str × NameKind)}
    (ho:G.K.lookup a = some ⟨oc,od,.func (fnOf name qual params body scope .none kV doc pm an cdv ct),osl⟩) (hcd:codeIn G.K cdv qual = true) (hpp:plainPs params = some ps) (hs:slotsOk names scope = true) (hpo:paramsOk ps names scope = true) (plen:ps.length ≤ names.length)
    {vs:List V} {hp:Hp} {X:Nat → Hp → Prop} {A:Around} {s:Shared} {am:AM} {vals:List Value} {Rr:Result → Shared → Prop} (c1:vs.length = ps.length) (rm:RoomC X A (r + 1)) (sz:G.base.objs.size ≤ s.heap.objs.size) (hr:HR G am s.heap hp) (sm:Same G s) (rv:RVs G.ws am s.heap vs vals)
    (k:∀ env s₁,Entry G names scope cdv qual s am (vs.map some ++ List.replicate (names.length - ps.length) none) hp X A r env s₁ → wpAny (model G.prog G.w) (A.deeper env) (execs body env) (fun f s'=>Rr (.ok (.ret (match f with | .ret v=>v | _=>.none))) s')
        (fun e s'=>wpAny (model G.prog G.w) (A.deeper env) (leaving env e) (fun zz s''=>Rr (.error e) s'') (fun e' s''=>Rr (.error e') s'') s') s₁) :
    codeAny (model G.prog G.w) A (.call (.ref a) ⟨vals,[]⟩) Rr s:=by
  refine of_P fun P hP=>?_
  have hvl:vals.length = ps.length:=rv.length.symm.trans c1
  simp only [paramsOk,Bool.and_eq_true,Bool.not_eq_true',decide_eq_true_eq,beq_iff_eq,List.all_eq_true,Bool.or_eq_true] at hpo
  obtain ⟨⟨⟨⟨⟨⟨p1,p2⟩,p3⟩,p4⟩,p5⟩,p6⟩,p7⟩:=hpo
  have hso:=hs
  simp only [slotsOk,Bool.and_eq_true,List.all_eq_true,decide_eq_true_eq] at hso
  obtain ⟨s1,s2⟩:=hso
  have pn:ps.Nodup:=by rw [← p1,List.map_take]; exact s2.sublist (List.take_sublist _ _)
  have nm:∀ (i:Nat) (x:Str),ps[i]? = some x → ∃ k,names[i]? = some (x,k) ∧ (k = .local ∨ k = .cell) ∧ scope.names.lookup x = some k:=fun i x e=>by
    have il:i < ps.length:=by obtain ⟨q,_⟩:=List.getElem?_eq_some_iff.mp e; exact q
    have e2:((names.take ps.length).map (·.1))[i]? = some x:=by rw [p1]; exact e
    rw [List.getElem?_map] at e2
    cases e3:(names.take ps.length)[i]? with
    | none=>rw [e3] at e2; cases e2
    | some p=>
      rw [e3] at e2
      have e4:p.1 = x:=by simpa using e2
      have mem:=List.mem_of_getElem? e3
      have kk:=p2 p mem
      rw [List.getElem?_take_of_lt il] at e3
      have q:=s1 p (List.mem_of_getElem? e3)
      simp only [beq_iff_eq] at q
      exact ⟨p.2,by rw [e3,← e4],kk,by rw [← e4]; exact q.1.1.1⟩
  have zn:((ps.zip vals).map (·.1)) = ps:=List.map_fst_zip (Nat.le_of_eq hvl.symm)
  have ofIn:∀ y ∈ ps.zip vals,∃ k,(k = .local ∨ k = .cell) ∧ scope.names.lookup y.1 = some k:=fun y hy=>by
    have:y.1 ∈ ps:=by rw [← zn]; exact List.mem_map_of_mem hy
    obtain ⟨i,hi⟩:=List.mem_iff_getElem?.mp this
    obtain ⟨k,_,h2,h3⟩:=nm i _ hi
    exact ⟨k,h2,h3⟩
  refine hP (codeAny_call_cells (fd:=fnOf name qual params body scope .none kV doc pm an cdv ct) (binds:=ps.zip vals) (by have:=rm.depth; (first | lia | omega)) (hr.base _ _ (GK.ok.x _ _ ho)) rfl (GK.ok.nolimit.keeps hr.base) (codeRec_of (GK.ok.x.keeps hr.base) hcd) rfl (bindArgs_plain hpp rfl hvl pn) rfl ?_ ?_ p5 p6 p4)
  · intro y hy
    obtain ⟨k,hk,e⟩:=ofIn y hy
    rcases hk with rfl | rfl
    · exact .inl e
    · exact .inr ⟨e,cellsFrom_some _ _ _ (.inl e)⟩
  · intro s₁ IC
    have O:EnvOk (callEnvC (fnOf name qual params body scope .none kV doc pm an cdv ct) s.heap.objs.size a) names:=envOk_of hs p4 rfl rfl
    generalize henv:callEnvC (fnOf name qual params body scope .none kV doc pm an cdv ct) s.heap.objs.size a = env at *
    have hL:env.locals = s.heap.objs.size:=by rw [← henv]; rfl
    have hsc:env.scope = scope:=by rw [← henv]; rfl
    have hkf:∀ x,env.kindOf x = scope.names.lookup x:=fun x=>by unfold Env.kindOf; rw [hsc]
    have hcs:env.cells = cellsFrom (s.heap.objs.size + 1) scope.names []:=by rw [← henv]; rfl
    have cn:(env.cells.map (·.1)).Nodup:=by
      rw [hcs,cellsFrom_names]
      simp only [List.map_nil,List.append_nil]
      exact List.pairwise_reverse.mpr (p3.imp fun h=>h.symm)
    have kp:=IC.toInCall.keep
    have hr1:HR G am s₁.heap hp:=hr.keepAll kp
    have sm1:Same G s₁:=by obtain ⟨h',tk,e⟩:=IC.toInCall.same; subst e; exact ⟨sm.gens,sm.os⟩
    have fresh:∀ b,s.heap.objs.size ≤ b → s.heap.get? b = none:=fun b hb=>by
      cases z:s.heap.get? b with
      | none=>rfl
      | some o=>exact absurd (Heap.lt_size z) (Nat.not_lt.mpr hb)
    have ownF:∀ b ∈ ownA env,s.heap.get? b = none:=fun b hb=>by
      simp only [ownA,List.mem_cons,List.mem_map] at hb
      rcases hb with e | ⟨c,hc,e⟩
      · exact fresh b (by rw [e,hL]; exact Nat.le_refl _)
      · have:=IC.above c.1 c.2 hc
        exact fresh b (by rw [← e]; rw [hL] at this; exact Nat.le_of_lt this)
    have R1:Rel G env names s₁ am (vs.map some ++ List.replicate (names.length - ps.length) none) hp:=by
      refine ⟨hr1,⟨_,⟨IC.toInCall.ns,hr1.base,by rw [hL]; exact sz⟩,?_⟩,?_,?_,IC.apart,?_,?_,sm1⟩
      · intro i v e
        unfold Mine.getL at e
        have il:i < vs.length:=by
          by_cases q:i < vs.length
          · exact q
          · rw [List.getElem?_append_right (by simp; (first | lia | omega))] at e
            simp only [List.length_map] at e
            rw [List.getElem?_replicate] at e
            split at e
            · rename_i q2; split at q2 <;> cases q2
            · cases e
        rw [List.getElem?_append_left (by simpa using il),List.getElem?_map] at e
        cases hv:vs[i]? with
        | none=>rw [hv] at e; cases e
        | some u=>
          rw [hv] at e
          cases e
          obtain ⟨val,v1,v2⟩:=rv.get hv
          have ip:i < ps.length:=Nat.lt_of_lt_of_eq il (rv.length.trans hvl)
          have hpi:ps[i]? = some ps[i]:=List.getElem?_eq_getElem ip
          obtain ⟨k,n1,n2,n3⟩:=nm i _ hpi
          have mem:(ps[i],val) ∈ ps.zip vals:=List.mem_iff_getElem?.mpr ⟨i,by rw [List.getElem?_zip_eq_some]; exact ⟨hpi,v1⟩⟩
          have zn':((ps.zip vals).map (·.1)).Nodup:=by rw [zn]; exact pn
          refine ⟨ps[i],k,val,n1,v2.mono (fun zz zz t=>t.keeps kp) (fun zz zz e=>e),?_⟩
          rcases n2 with rfl | rfl <;> simp only [BindAt]
          · exact bindL_in (by rw [hkf]; exact n3) zn' mem
          · have:=cellsFrom_some scope.names (s.heap.objs.size + 1) [] (.inl n3)
            rw [← hcs] at this
            obtain ⟨c,hc⟩:=Option.isSome_iff_exists.mp this
            refine ⟨c,hc,?_⟩
            have:=IC.cell _ _ hc
            rwa [bindC_in (by rw [hkf]; exact n3) zn' mem] at this
      · intro b hb
        have z:=ownF b hb
        refine ⟨fun q=>?_,?_⟩
        · obtain ⟨p,hp1,e⟩:=List.mem_map.mp q
          obtain ⟨_,o,ho2,_⟩:=hr.live hp1
          rw [e,z] at ho2; cases ho2
        · cases q:G.base.get? b with
          | none=>rfl
          | some o=>rw [hr.base _ _ q] at z; cases z
      · intro x hx
        have q:=s1 _ hx
        simp only [beq_iff_eq] at q
        have:=cellsFrom_some scope.names (s.heap.objs.size + 1) [] (.inl q.1.1.1)
        rw [← hcs] at this
        obtain ⟨c,hc⟩:=Option.isSome_iff_exists.mp this
        exact ⟨c,_,hc,IC.cell _ _ hc⟩
      · intro c hc
        have l:=lookup_of_mem cn hc
        obtain ⟨o,ho2,_⟩:=IC.cell _ _ l
        exact ⟨Nat.ne_of_gt (IC.above _ _ hc),by rw [ho2]; rfl⟩
      · simp only [List.length_append,List.length_map,List.length_replicate]
        (first | lia | omega)
    obtain ⟨l,hl⟩:=rm.some_
    have rm1:Room X (A.deeper env) r:=⟨by show A.depth + 1 + r + 101 ≤ _; have:=rm.depth; (first | lia | omega),by show A.units + 3 + 10 * r + 300 ≤ _; have:=rm.units; (first | lia | omega),rm.handled,
      ⟨env,l,by show A.frames.map _ = _; rw [hl]; rfl,by rw [hsc]; exact p6,by rw [hsc]; exact p5,O.bi,O.glob⟩,rm.noX⟩
    exact k env s₁ ⟨O,hsc,by rw [← henv]; rfl,by rw [← henv]; rfl,by rw [← henv]; rfl,R1,ownF,kp,rm1⟩
theorem Entry.drop {names:List (Str × NameKind)} {scope:Scope} {cdv:Value} {qual:Str} {s:Shared} {am:AM} {loc:Locs} {hp:Hp} {X:Nat → Hp → Prop} {A:Around} {env:Env} {s₁:Shared} (I:Entry G names scope cdv qual s am loc hp X A r env s₁) {am':AM} {s':Shared} (x:Aft (ownA env) s₁.heap am s'.heap am'):Aft [] s.heap am s'.heap am':=by
  have kp:=I.kp
  obtain ⟨l,e,f2⟩:=x.ext
  refine ⟨fun b o e n1 n2=>x.keep b o (kp b o e) (fun q=>?_) n2,fun b i t=>x.tup b i (t.keeps kp),⟨l,e,fun p hp1=>?_⟩,fun b e=>x.live b (by
    cases z:s.heap.get? b with
    | none=>rw [z] at e; cases e
    | some o=>rw [kp b o z]; rfl)⟩
  · rw [I.own b q] at e; cases e
  · have z:=f2 p hp1
    refine ⟨?_,?_⟩
    · cases q:s.heap.get? p.1 with
      | none=>rfl
      | some o=>rw [kp _ _ q] at z; cases z.1
    · cases q:s.heap.get? p.2 with
      | none=>rfl
      | some o=>rw [kp _ _ q] at z; cases z.2
theorem Entry.ends {names:List (Str × NameKind)} {scope:Scope} {cdv:Value} {qual:Str} {s:Shared} {am:AM} {loc:Locs} {hp:Hp} {X:Nat → Hp → Prop} {A:Around} {env:Env} {s₁:Shared} (I:Entry G names scope cdv qual s am loc hp X A r env s₁) {Q:V → Hp → Prop} {fl:Flow} {s':Shared} (z:SP G env names s₁ am (fun σ=>Q .none σ.hp) Q fl s') {val:Value} (e:fl = .ret val ∨ (fl = .next ∧ val = .none)):EvP G s am Q val s':=by
  rcases e with rfl | ⟨rfl,rfl⟩
  · obtain ⟨u,hp',am',z1,z2,z3,z4,z5⟩:=z
    exact ⟨u,hp',am',z1,z2,z3,I.drop z4,z5⟩
  · obtain ⟨l',hp',am',z1,z2,z3⟩:=z
    exact ⟨.none,hp',am',z1,.none,z2.hr,I.drop z3,z2.same⟩
theorem call_entry (GK:GG G g) {f:Nat} {a:Addr} {fn:Fn} {name qual:Str} {params:Arguments} {body:List Stmt} {scope:Scope} {kV doc pm cdv ct oc:Value} {an od:Option Addr} {osl:Array (Option Value)} {ps:List Str} {names:List (Str × NameKind)}
    (ho:G.K.lookup a = some ⟨oc,od,.func (fnOf name qual params body scope .none kV doc pm an cdv ct),osl⟩) (hcd:codeIn G.K cdv qual = true) (hpp:plainPs params = some ps) (hs:slotsOk names scope = true) (hpo:paramsOk ps names scope = true)
    (hf:g.fn f = some fn) (hnp:fn.np = ps.length) (hn:fn.n = names.length) (hb:∀ env,EnvOk env names → env.scope = scope → SndSs G g C N env names r body fn.body)
    {vs:List V} {hp:Hp} {Q:V → Hp → Prop} {X:Nat → Hp → Prop} {A:Around} {s:Shared} {am:AM} {vals:List Value} (hC:stepC g C N f vs hp Q X) (rm:RoomC X A (r + 1)) (sz:G.base.objs.size ≤ s.heap.objs.size) (hr:HR G am s.heap hp) (sm:Same G s) (rv:RVs G.ws am s.heap vs vals) :
    codeAny (model G.prog G.w) A (.call (.ref a) ⟨vals,[]⟩) (fun res s'=>match res with | .ok (.ret val)=>EvP G s am Q val s' | .ok _=>False | .error e=>XN e s') s:=by
  unfold stepC at hC
  rw [hf,onSome_some,hnp,hn] at hC
  obtain ⟨c1,c2,c3⟩:=hC
  refine frame_in GK ho hcd hpp hs hpo c2 c1 rm sz hr sm rv fun env s₁ I=>wpAny_mono (hb env I.O I.sc ⟨_,hp⟩ (fun σ=>Q .none σ.hp) Q X (A.deeper env) s₁ am (fun zz zz=>False) c3 I.rm I.R) (fun fl s' z=>?_) fun zz zz z=>z.elim
  cases fl with
  | next=>exact I.ends z (.inr ⟨rfl,rfl⟩)
  | ret v=>exact I.ends z (.inl rfl)
  | brk=>exact z.elim
  | cont=>exact z.elim
end
end Mine
end
noncomputable section
namespace Mine
open PySem PySem.W PyProof.Rows
section
variable {G:Glb} {g:Genv} {C N:Oracle} {env:Env} {names:List (Str × NameKind)} {r:Nat} {s:Shared} {A:Around}
theorem comp_unroll {elt target iter:PySem.Expr} {ifs:List PySem.Expr} {scope:Scope} {pos:Pos} {it acc:Value} {Rr:Result → Shared → Prop}
    (h:wpAny (model G.prog G.w) A (pyNext it) (fun rr s1=>match rr with
      | none=>Rr (.ok .next) s1
      | some v=>wpAny (model G.prog G.w) A (letOwnedTupleGo target it v) (fun zz s1'=>wpAny (model G.prog G.w) A (assign target env v) (fun zz s2=>
          wpAny (model G.prog G.w) A (forIn ifs true fun c r=>if r = true then do let ok ← isTrue c env (eval c env); pure (ForInStep.yield ok) else pure (ForInStep.yield r)) (fun ok s3=>
            if ok = true then wpAny (model G.prog G.w) A (eval elt env) (fun x s4 => wpAny (model G.prog G.w) A (call (.builtin "list.append") [acc, x]) (fun zz s5 => codeAny (model G.prog G.w) A (.compLoop (.ListComp elt [⟨target, iter, ifs, 0⟩] scope pos) 0 it acc env) Rr s5) (fun zz zz => False) s4) (fun zz zz => False) s3
            else codeAny (model G.prog G.w) A (.compLoop (.ListComp elt [⟨target,iter,ifs,0⟩] scope pos) 0 it acc env) Rr s3) (fun zz zz=>False) s2) (fun zz zz=>False) s1') (fun zz zz=>False) s1) (fun zz zz=>False) s) :
    codeAny (model G.prog G.w) A (.compLoop (.ListComp elt [⟨target,iter,ifs,0⟩] scope pos) 0 it acc env) Rr s:=by
  refine codeAny_of_tree ?_
  rw [Around.under_of_weight (c:=.compLoop (.ListComp elt [⟨target,iter,ifs,0⟩] scope pos) 0 it acc env) rfl]
  show wpAny _ A ((compTurn (.ListComp elt [⟨target,iter,ifs,0⟩] scope pos) 0 it acc env).onRaise (fun x=>do noteFrame x env; theTreesLotGoes x)) _ _ s
  refine wpAny_onRaise ?_
  rw [compTurn_list]
  refine wpAny_bind (wpAny_standAt (wpAny_bind (wpAny_mono h (fun rr s1 h1=>?_) fun zz zz x=>x.elim)))
  cases rr with
  | none=>exact wpAny_pure h1
  | some v=>
    refine wpAny_bind (wpAny_mono h1 (fun zz s1' h1'=>?_) fun zz zz x=>x.elim)
    refine wpAny_bind (wpAny_mono h1' (fun zz s2 h2=>wpAny_bind (wpAny_mono h2 (fun ok s3 h3=>?_) fun zz zz x=>x.elim)) fun zz zz x=>x.elim)
    cases ok with
    | false=>exact wpAny_pure ⟨rfl,h3⟩
    | true=>exact wpAny_bind (wpAny_bind (wpAny_mono h3 (fun x s4 h4=>wpAny_bind (wpAny_mono h4 (fun zz s5 h5=>wpAny_pure (wpAny_pure ⟨rfl,h5⟩)) fun zz zz h'=>h'.elim)) fun zz zz h'=>h'.elim))
inductive SndTs (G:Glb) (g:Genv) (C N:Oracle) (env:Env) (names:List (Str × NameKind)) (r:Nat):List PySem.Expr → List Mine.E → Prop
  | nil:SndTs G g C N env names r [] []
  | cons {e:PySem.Expr} {i:Mine.E} {es:List PySem.Expr} {is:List Mine.E}:SndT G g C N env names r e i → SndTs G g C N env names r es is → SndTs G g C N env names r (e :: es) (i :: is)
theorem conds_false:∀ (ifs:List PySem.Expr) {T:Bool → Shared → Prop} {E:Value → Shared → Prop} {s:Shared},T false s → wpAny (model G.prog G.w) A (forIn ifs false fun c r=>if r = true then do let ok ← isTrue c env (eval c env); pure (ForInStep.yield ok) else pure (ForInStep.yield r)) T E s
  | [],T,E,s,h=>by rw [List.forIn_nil]; exact wpAny_pure h
  | c :: cs,T,E,s,h=>by
    rw [List.forIn_cons]
    simp only [Bool.false_eq_true,if_false]
    exact wpAny_bind (wpAny_pure (conds_false cs h))
set_option tactic.hygienic true in
theorem conds_ok {X:Nat → Hp → Prop} {loc:Locs} (rm:Room X A r) {ifs:List PySem.Expr} {is:List Mine.E} (t:SndTs G g C N env names r ifs is):∀ {hp:Hp} {Q:Bool → Hp → Prop} {s:Shared} {am:AM},wpC g C N loc is hp Q X → Rel G env names s am loc hp →
    wpAny (model G.prog G.w) A (forIn ifs true fun c r=>if r = true then do let ok ← isTrue c env (eval c env); pure (ForInStep.yield ok) else pure (ForInStep.yield r)) (EvPb G s am Q) (fun zz zz=>False) s:=by
  induction t with
  | nil=>
    intro hp Q s am h R
    rw [List.forIn_nil]; exact wpAny_pure (evpb_here h R.hr rfl R.same)
  | cons h1 t ih=>
    intro hp Q s am h R
    rename_i e i es is
    rw [List.forIn_cons]
    simp only [if_true]
    dsimp only [wC_cons] at h
    refine wpAny_bind (wpAny_bind (wpAny_mono (h1 loc hp (fun b h1=>match b with | true=>wpC g C N loc is h1 Q X | false=>Q false h1) X A s am _ h rm R rfl) (fun b s1 z=>wpAny_pure ?_) fun zz zz z=>z.no))
    obtain ⟨p1,am1,z1,z3,z4,z5⟩:=z
    have R1:=R.step z4 z3 z5
    cases b with
    | true=>exact wpAny_mono (ih z1 R1) (fun zz zz y=>y.back z4) fun zz zz y=>y
    | false=>exact conds_false es ⟨p1,am1,z1,z3,z4,z5⟩
theorem Aft.transOwn {own:List Addr} {h h1 h2:Heap} {am am1 am2:AM} {c:Addr} (a:Aft own h am h1 am1) (b:Aft [c] h1 am1 h2 am2) (hn:h.get? c = none):Aft own h am h2 am2:=by
  have a':Aft (c :: own) h am h1 am1:=⟨fun x o e n1 n2=>a.keep x o e (fun q=>n1 (.tail _ q)) n2,a.tup,a.ext,a.live⟩
  have b':Aft (c :: own) h1 am1 h2 am2:=⟨fun x o e n1 n2=>b.keep x o e (fun q=>n1 (by rw [List.mem_singleton.mp q]; exact .head _)) n2,b.tup,b.ext,b.live⟩
  have ab:=a'.trans b'
  refine ⟨fun x o e n1 n2=>ab.keep x o e (fun q=>?_) n2,ab.tup,ab.ext,ab.live⟩
  rcases List.mem_cons.mp q with e' | e'
  · rw [e',hn] at e; cases e
  · exact n1 e'
structure AccAt (G:Glb) (D:Addr) (acc:List V) (h:Heap) (am:AM):Prop where
  at_:∃ vs n,h.get? D = some (listObj vs n) ∧ RVs G.ws am h acc vs
  len:acc.length ≤ lim
  out:D ∉ am.muts
theorem AccAt.live {D:Addr} {acc:List V} {h:Heap} {am:AM} (x:AccAt G D acc h am):(h.get? D).isSome = true:=by obtain ⟨vs,n,h1,_⟩:=x.at_; rw [h1]; rfl
theorem AccAt.after {D:Addr} {acc:List V} {h h':Heap} {am am':AM} {own:List Addr} (x:AccAt G D acc h am) (a:Aft own h am h' am') (ho:D ∉ own):AccAt G D acc h' am':=by
  obtain ⟨vs,n,h1,h2⟩:=x.at_
  exact ⟨⟨vs,n,a.keep D _ h1 ho x.out,a.rvs h2⟩,x.len,a.muts_out x.out x.live⟩
theorem AccAt.keepBut {D:Addr} {its:List Addr} {acc:List V} {h h':Heap} {am:AM} (x:AccAt G D acc h am) (k:KeepBut its h h') (hne:D ∉ its) (tk:TupKept h h'):AccAt G D acc h' am:=by
  obtain ⟨vs,n,h1,h2⟩:=x.at_
  exact ⟨⟨vs,n,k D _ hne h1,h2.mono tk fun zz zz e=>e⟩,x.len,x.out⟩
theorem comp_run {X:Nat → Hp → Prop} {elt target iter:PySem.Expr} {ifs:List PySem.Expr} {scope:Scope} {pos:Pos} {is:List Nat} {ie:Mine.E} {ics:List Mine.E} {a D:Addr} {its:List Addr} {tg:PySem.Expr → Prop} {grd:Hp → Prop} {P:List V → Heap → AM → Prop} {P2:Value → List V → Heap → AM → Prop} {K:List V → Hp → Prop} {s0:Shared} {am0:AM}
    (ip:IterP G a its tg grd P P2) (htg:tg target) (ht:SndTgt G true env names target is) (hc:SndTs G g C N env names r ifs ics) (he:Snd G g C N env names r elt ie) (rm:Room X A r) (hao:∀ x ∈ its,x ∉ ownA env) (hab:∀ x ∈ its,G.base.get? x = none) (ha0:∀ x ∈ its,s0.heap.get? x = none)
    (hDo:D ∉ ownA env) (hDb:G.base.get? D = none) (hD0:s0.heap.get? D = none) (hDa:D ∉ its) (hL0:s0.heap.get? env.locals = none) :
    ∀ (xs:List V) (l:Locs) (acc:List V) (hp:Hp) (s:Shared) (am:AM),compWp grd (fun x l h2 K=>onSome (bindT is x l) fun l1=>wpC g C N l1 ics h2 (fun b h3=>match b with
        | true=>wpE g C N l1 ie h3 (fun y h4=>K l1 [y] h4) X
        | false=>K l1 [] h3) X) xs l acc hp K → P xs s.heap am → Rel G env names s am l hp → (∀ x ∈ its,x ∉ am.muts) → AccAt G D acc s.heap am → Aft [] s0.heap am0 s.heap am →
      codeAny (model G.prog G.w) A (.compLoop (.ListComp elt [⟨target,iter,ifs,0⟩] scope pos) 0 (.ref a) (.ref D) env) (fun res s'=>match res with
        | .ok _=>∃ acc' hp' am' l',K acc' hp' ∧ Rel G env names s' am' l' hp' ∧ AccAt G D acc' s'.heap am' ∧ Aft [] s0.heap am0 s'.heap am'
        | .error _=>False) s:=by
  have hDL:D ≠ env.locals:=fun q=>hDo (by rw [q]; simp [ownA])
  intro xs
  induction xs with
  | nil=>
    intro l acc hp s am h p R hm ac af
    obtain ⟨gd,kn⟩:=h
    refine comp_unroll (ip.fin A s am hp _ _ rm.handled p R.hr gd fun h' k=>?_)
    obtain ⟨hr',tk⟩:=R.hr.keepBut k (ip.live _ _ _ p) hm hab
    exact ⟨acc,hp,am,l,kn,R.keepBut (tk:=s.toks) k hr' tk hao,ac.keepBut k hDa tk,af.transBut k ha0 tk⟩
  | cons x xs ih=>
    intro l acc hp s am h p R hm ac af
    obtain ⟨gd,st⟩:=h
    refine comp_unroll (ip.next A s am hp x xs _ _ p R.hr gd fun h' tk val rv p' k=>?_)
    obtain ⟨hr',tkp⟩:=R.hr.keepBut k (ip.live _ _ _ p) hm hab
    have R1:=R.keepBut (tk:=tk) k hr' tkp hao
    have af1:=af.transBut k ha0 tkp
    have ac1:=ac.keepBut k hDa tkp
    refine ip.goes A { s with heap:=h',toks:=tk } am xs target val _ _ htg p' fun h'' p'' k''=>?_
    obtain ⟨hr'',tkp''⟩:=hr'.keepBut k'' (ip.live2 _ _ _ _ p') hm hab
    have R2:=R1.keepBut (tk:=tk) k'' hr'' tkp'' hao
    have af2:=af1.transBut k'' ha0 tkp''
    have ac2:=ac1.keepBut k'' hDa tkp''
    cases hbt:bindT is x l with
    | none=>rw [hbt] at st; exact st.elim
    | some l1=>
      rw [hbt,onSome_some] at st
      refine ht A _ am l l1 hp x val _ _ rm.handled hbt (rv.mono tkp'' fun zz zz e=>e) R2 fun s3 R3 a3=>?_
      have hal:∀ x ∈ its,x ∉ ownB env true:=fun x hx q=>hao x hx (by rw [List.mem_singleton.mp q]; simp [ownA])
      have p3:=ip.after p'' a3 hal hm
      have hm3:=ip.out p'' a3 hm
      have af3:=af2.transOwn a3 hL0
      have ac3:=ac2.after a3 (by simpa [ownB] using hDL)
      refine wpAny_mono (conds_ok rm hc st R3) (fun ok s4 z=>?_) fun zz zz z=>z
      obtain ⟨hp4,am4,z1,z3,z4,z5⟩:=z
      have R4:=R3.step z4 z3 z5
      have p4:=ip.after p3 z4 (by simp) hm3
      have hm4:=ip.out p3 z4 hm3
      have af4:=af3.trans z4
      have ac4:=ac3.after z4 (by simp)
      cases ok with
      | false=>
        simp only [Bool.false_eq_true,if_false]
        simp only [List.append_nil] at z1
        exact ih l1 acc hp4 s4 am4 z1.2 p4 R4 hm4 ac4 af4
      | true=>
        simp only [if_true]
        refine wpAny_mono (he l1 hp4 _ X A s4 am4 z1 rm R4) (fun y s5 w=>?_) fun zz zz w=>w.no
        obtain ⟨v,hp5,am5,⟨w0,w1⟩,w2,w3,w4,w5⟩:=w
        have R5:=R4.step w4 w3 w5
        have p5:=ip.after p4 w4 (by simp) hm4
        have hm5:=ip.out p4 w4 hm4
        have af5:=af4.trans w4
        have ac5:=ac4.after w4 (by simp)
        obtain ⟨vs,n,d1,d2⟩:=ac5.at_
        have ln:=d2.length
        refine wpAny_list_append_plain ⟨n,d1⟩ (fun h6 hl6 hs6=>?_) (by have:=ac5.len; rw [List.size_toArray,← ln,sizeLine]; simp only [lim] at this; (first | lia | omega))
        obtain ⟨n6,d6⟩:=hl6
        have hseq:TupKept s5.heap h6:=TupKept.turn hs6 d1 (by intro e; injection e with e; exact absurd e (by decide))
        have kb:KeepBut [D] s5.heap h6:=.one fun b o ne e=>(hs6.2 b ne).trans e
        have oi:∀ C dx,listObj vs n ≠ instObj C dx:=fun C dx e=>by cases e
        have hr6:HR G am5 h6 hp5:=by
          have ne2:∀ q ∈ am5,q.2 ≠ D:=fun q hq e=>ac5.out (by rw [← e]; exact List.mem_map_of_mem hq)
          refine ⟨w3.len,w3.nodup,fun i oi p h1 h2=>?_,fun b o e=>kb _ _ (fun e'=>by rw [List.mem_singleton.mp e',hDb] at e; cases e) (w3.base b o e)⟩
          have n2:=ne2 p (List.mem_of_getElem? h2)
          have n1:p.1 ≠ D:=fun e=>n2 (by rw [← w3.first d1 (fun C dx e=>by cases e) p (List.mem_of_getElem? h2) e]; exact e)
          exact (w3.objs i oi p h1 h2).mono hseq (fun zz zz e=>e) (fun ob e=>kb _ _ (fun q=>n1 (List.mem_singleton.mp q)) e) (fun ob e=>kb _ _ (fun q=>n2 (List.mem_singleton.mp q)) e)
        have R6:=R5.keepBut (tk:=s5.toks) kb hr6 hseq (all_one hDo)
        have p6:P xs h6 am5:=ip.keep _ _ _ _ _ p5 (fun x hx=>hs6.2 x fun e=>hDa (e ▸ hx)) hseq (fun zz zz e=>e)
        have af6:=af5.transBut kb (all_one hD0) hseq
        refine ih l1 (acc ++ [v]) hp5 { s5 with heap:=h6 } am5 w1 p6 R6 hm5 ⟨⟨vs ++ [y],n6,by rw [d6]; simp [listObj],(d2.mono hseq fun zz zz e=>e).append (.cons (w2.mono hseq fun zz zz e=>e) .nil)⟩,w0,ac5.out⟩ af6
end
end Mine
end
noncomputable section
namespace Mine
open PySem PySem.W PyProof.Rows
noncomputable def clOf (env:Env):List (Str × NameKind) → List (Str × Addr) → List (Str × Addr)
  | [],acc=>acc
  | (n,k) :: r,acc=>if k == .free then clOf env r ((n,(env.cells.lookup n).getD 0) :: acc) else clOf env r acc
theorem closure_is {env:Env}:∀ (names:List (Str × NameKind)) (acc:List (Str × Addr)),(∀ x ∈ names,x.2 = .free → ∃ c,env.cells.lookup x.1 = some c) →
    (forIn names acc (fun x cs=>if x.2 == .free then (do let c ← cellOf env x.1; pure (ForInStep.yield ((x.1,c) :: cs))) else pure (ForInStep.yield cs)):Sem (List (Str × Addr))) = pure (clOf env names acc)
  | [],acc,_=>rfl
  | (n,k) :: r,acc,h=>by
    rw [List.forIn_cons]
    unfold clOf
    by_cases hk:(k == .free) = true
    · obtain ⟨c,hc⟩:=h (n,k) (.head _) (beq_iff_eq.mp hk)
      have e:cellOf env n = pure c:=by unfold cellOf; rw [hc]
      simp only [hk,if_true]
      rw [e]
      simp only [sem_pb]
      rw [show (env.cells.lookup n).getD 0 = c by rw [hc]; rfl]
      exact closure_is r _ fun x hx=>h x (.tail _ hx)
    · simp only [hk]
      simp only [Bool.false_eq_true,if_false,sem_pb]
      exact closure_is r _ fun x hx=>h x (.tail _ hx)
theorem closureFor_is {scope:Scope} {env:Env} (h:∀ x ∈ scope.names,x.2 = .free → ∃ c,env.cells.lookup x.1 = some c):closureFor scope env = pure (clOf env scope.names []):=by
  unfold closureFor
  exact Eq.trans (congrArg (fun (m:Sem (List (Str × Addr)))=>m >>= fun s=>pure s) (closure_is scope.names [] h)) rfl
theorem clOf_mem {env:Env} {x:Str} {c:Addr}:∀ {names:List (Str × NameKind)} {acc:List (Str × Addr)},(x,c) ∈ clOf env names acc → (x,c) ∈ acc ∨ ((x,NameKind.free) ∈ names ∧ c = (env.cells.lookup x).getD 0)
  | [],acc,h=>.inl h
  | (n,k) :: r,acc,h=>by
    unfold clOf at h
    by_cases hk:(k == .free) = true
    · rw [if_pos hk] at h
      rcases clOf_mem h with e | ⟨e1,e2⟩
      · rcases List.mem_cons.mp e with e | e
        · cases e; exact .inr ⟨by rw [beq_iff_eq.mp hk]; exact .head _,rfl⟩
        · exact .inl e
      · exact .inr ⟨.tail _ e1,e2⟩
    · rw [if_neg hk] at h
      rcases clOf_mem h with e | ⟨e1,e2⟩
      · exact .inl e
      · exact .inr ⟨.tail _ e1,e2⟩
theorem clOf_has {env:Env} {x:Str}:∀ {names:List (Str × NameKind)} {acc:List (Str × Addr)},((x,NameKind.free) ∈ names ∨ ∃ c,(x,c) ∈ acc) → ∃ c,(x,c) ∈ clOf env names acc
  | [],acc,h=>by rcases h with h | h; cases h; exact h
  | (n,k) :: r,acc,h=>by
    unfold clOf
    by_cases hk:(k == .free) = true
    · rw [if_pos hk]
      rcases h with h | ⟨c,h⟩
      · rcases List.mem_cons.mp h with e | e
        · cases e; exact clOf_has (.inr ⟨_,.head _⟩)
        · exact clOf_has (.inl e)
      · exact clOf_has (.inr ⟨c,.tail _ h⟩)
    · rw [if_neg hk]
      rcases h with h | h
      · rcases List.mem_cons.mp h with e | e
        · cases e; exact absurd rfl hk
        · exact clOf_has (.inl e)
      · exact clOf_has (.inr h)
theorem clOf_names {env:Env}:∀ (names:List (Str × NameKind)) (acc:List (Str × Addr)),(clOf env names acc).map (·.1) = ((names.filter fun p=>p.2 == .free).map (·.1)).reverse ++ acc.map (·.1)
  | [],acc=>rfl
  | (n,k) :: r,acc=>by
    unfold clOf
    by_cases hk:(k == .free) = true
    · rw [if_pos hk,clOf_names r]; simp [hk]
    · rw [if_neg hk,clOf_names r]; simp [hk]
set_option tactic.hygienic true in
theorem capL_get:∀ {cap:List (Nat × Nat)} {o l l':Locs},capL cap o l = some l' → l'.length = l.length ∧ ∀ {i:Nat} {v:V},Mine.getL l' i = some v → Mine.getL l i = some v ∨ ∃ j,(i,j) ∈ cap ∧ Mine.getL o j = some v
  | [],o,l,l',h=>by simp only [capL] at h; cases h; exact ⟨rfl,fun h=>.inl h⟩
  | (a,b) :: r,o,l,l',h=>by
    simp only [capL] at h
    split at h
    · rename_i u hu
      obtain ⟨h1,h2⟩:=capL_get h
      refine ⟨by rw [h1]; simp,fun {i v} e=>?_⟩
      rcases h2 e with e | ⟨j,e1,e2⟩
      · rcases getL_set e with ⟨rfl,rfl⟩ | ⟨_,e⟩
        · exact .inr ⟨b,.head _,hu⟩
        · exact .inl e
      · exact .inr ⟨j,.tail _ e1,e2⟩
    · cases h
section
variable {G:Glb} {g:Genv} {C N:Oracle} {env:Env} {names:List (Str × NameKind)} {r:Nat} {s:Shared} {am:AM} {loc:Locs} {hp:Hp}
theorem relabel_is (O:EnvOk env names) {scope:Scope} (h:compOk scope names = true):relabel scope env = relS scope:=by
  simp only [compOk,Bool.and_eq_true,List.all_eq_true] at h
  unfold relabel relS
  congr 1
  refine List.map_congr_left fun p hp=>?_
  obtain ⟨n,k⟩:=p
  have q:=(h.1.2 _ hp).1.2
  dsimp only at q ⊢
  by_cases hk:(k == .free) = true
  · rw [hk] at q
    simp only [Bool.not_true,Bool.false_or,List.contains_iff_mem] at q
    obtain ⟨i,hi⟩:=List.mem_iff_getElem?.mp q
    rw [hk,O.kind,(O.kinds i _ _ hi).1]
    rfl
  · have hk':(k == .free) = false:=by simpa using hk
    rw [hk']; rfl
theorem compEnv_ok (O:EnvOk env names) {scope:Scope} (h:compOk scope names = true) (hs:slotsOk (compNames scope) (relS scope) = true) (cl:List (Str × Addr)) (L:Addr):EnvOk (compEnvC scope cl L env) (compNames scope):=by
  have hk:scope.kind = .function:=by
    simp only [compOk,Bool.and_eq_true,beq_iff_eq] at h; exact h.1.1.1.1
  refine envOk_of ?_ hk O.glob O.bi
  show slotsOk _ (relabel scope env) = true
  rw [relabel_is O h]; exact hs
theorem comp_rel (O:EnvOk env names) {scope:Scope} (h:compOk scope names = true) (R:Rel G env names s am loc hp) {L:Addr} {m:Str → Option Value} (hns:s.heap.Ns L m) (hLo:L ∉ ownA env) (hLm:L ∉ am.muts) (hLb:G.base.objs.size ≤ L)
    {cap:List (Nat × Nat)} (hcap:capOk cap (compNames scope) names = true) {l0:Locs} (hl0:capL cap loc (List.replicate (compNames scope).length none) = some l0):Rel G (compEnvC scope (clOf env scope.names []) L env) (compNames scope) s am l0 hp:=by
  refine of_P fun P hP=>?_
  have hh:=h
  simp only [compOk,Bool.and_eq_true,List.all_eq_true,decide_eq_true_eq] at hh
  obtain ⟨⟨_,hall⟩,hnd⟩:=hh
  have free:∀ x,(x,NameKind.free) ∈ scope.names → (x,NameKind.cell) ∈ names:=fun x hx=>by
    have:=(hall _ hx).1.2
    simpa [List.contains_iff_mem] using this
  have look:∀ x,(x,NameKind.free) ∈ scope.names → ∃ c v,env.cells.lookup x = some c ∧ s.heap.IsCell c v:=fun x hx=>R.cells x (free x hx)
  have mem:∀ x c,(x,c) ∈ clOf env scope.names [] → env.cells.lookup x = some c ∧ (x,NameKind.free) ∈ scope.names:=fun x c hx=>by
    rcases clOf_mem hx with e | ⟨e1,e2⟩
    · cases e
    · obtain ⟨d,v,hd,_⟩:=look x e1
      rw [hd] at e2; cases e2; exact ⟨hd,e1⟩
  have nd:((clOf env scope.names []).map (·.1)).Nodup:=by
    rw [clOf_names]
    simp only [List.map_nil,List.append_nil]
    exact List.pairwise_reverse.mpr (hnd.imp fun h=>h.symm)
  have cnC:∀ x,(x,NameKind.cell) ∈ compNames scope → (x,NameKind.free) ∈ scope.names:=fun x hx=>by
    unfold compNames relS at hx
    obtain ⟨p,hp,e⟩:=List.mem_map.mp (List.mem_filter.mp hx).1
    by_cases hk:(p.2 == .free) = true
    · rw [if_pos hk] at e; cases e
      have:p = (p.1,NameKind.free):=by rw [← beq_iff_eq.mp hk]
      rw [← this]; exact hp
    · rw [if_neg hk] at e
      subst e
      have:=(hall _ hp).1.1
      simp at this
  have clk:∀ x,(x,NameKind.free) ∈ scope.names → ∃ c v,(clOf env scope.names []).lookup x = some c ∧ env.cells.lookup x = some c ∧ s.heap.IsCell c v:=fun x hx=>by
    obtain ⟨c,hc⟩:=clOf_has (env:=env) (acc:=[]) (.inl hx)
    obtain ⟨h1,_⟩:=mem x c hc
    obtain ⟨d,v,hd,hv⟩:=look x hx
    rw [h1] at hd; cases hd
    exact ⟨c,v,lookup_of_mem nd hc,h1,hv⟩
  obtain ⟨m0,F,lr⟩:=R.fr
  obtain ⟨ll,lg⟩:=capL_get hl0
  have inOwn:∀ c ∈ clOf env scope.names [],c.2 ∈ ownA env ∧ c ∈ env.cells:=fun c hc=>by
    have:=mem_of_lookup (mem c.1 c.2 hc).1
    exact ⟨by simp only [ownA,List.mem_cons,List.mem_map]; exact .inr ⟨c,this,rfl⟩,this⟩
  refine hP ⟨R.hr,⟨m,⟨hns,R.hr.base,hLb⟩,?_⟩,?_,?_,?_,?_,?_,R.same⟩
  · intro i v e
    rcases lg e with e | ⟨j,e1,e2⟩
    · unfold Mine.getL at e
      rw [List.getElem?_replicate] at e
      split at e
      · rename_i q; split at q <;> cases q
      · cases e
    · obtain ⟨y,k,val,h1,h2,h3⟩:=lr j v e2
      have q:=List.all_eq_true.mp hcap _ e1
      dsimp only at q
      rw [h1] at q
      cases hc:(compNames scope)[i]? with
      | none=>rw [hc] at q; cases q
      | some z=>
        obtain ⟨x,kx⟩:=z
        rw [hc] at q
        simp only [Bool.and_eq_true,beq_iff_eq] at q
        obtain ⟨⟨rfl,rfl⟩,rfl⟩:=q
        refine ⟨x,.cell,val,rfl,h2,?_⟩
        simp only [BindAt] at h3 ⊢
        obtain ⟨c,h4,h5⟩:=h3
        obtain ⟨d,v',w1,w2,w3⟩:=clk x (cnC x (List.mem_of_getElem? hc))
        rw [h4] at w2; cases w2
        exact ⟨c,w1,h5⟩
  · intro b hb
    have hb':b = L ∨ ∃ c ∈ clOf env scope.names [],c.2 = b:=by
      have:b ∈ L :: (clOf env scope.names []).map (·.2):=hb
      rcases List.mem_cons.mp this with e | e
      · exact .inl e
      · obtain ⟨c,hc,e⟩:=List.mem_map.mp e; exact .inr ⟨c,hc,e⟩
    rcases hb' with rfl | ⟨c,hc,rfl⟩
    · refine ⟨hLm,?_⟩
      cases q:G.base.get? b with
      | none=>rfl
      | some o=>exact absurd (Heap.lt_size q) (Nat.not_lt.mpr hLb)
    · exact R.own _ (inOwn c hc).1
  · intro x hx
    obtain ⟨c,v,w1,w2,w3⟩:=clk x (cnC x hx)
    exact ⟨c,v,w1,w3⟩
  · show (clOf env scope.names []).Pairwise _
    have:=nd
    rw [List.Nodup,List.pairwise_map] at this
    refine List.Pairwise.imp_of_mem (fun {x y} hx hy hne e=>hne ?_) this
    exact name_of_addr R.apart (inOwn x hx).2 (e ▸ (inOwn y hy).2)
  · intro c hc
    have hc':c ∈ clOf env scope.names []:=hc
    refine ⟨fun e=>hLo ?_,(R.apartL c (inOwn c hc').2).2⟩
    have:c.2 = L:=e
    rw [← this]; exact (inOwn c hc').1
  · rw [ll]; simp
end
end Mine
end
noncomputable section
namespace Mine
open PySem PySem.W PyProof.Rows
section
variable {G:Glb} {g:Genv} {C N:Oracle} {env:Env} {names:List (Str × NameKind)} {r:Nat}
theorem HR.addAt {am:AM} {h:Heap} {hp:Hp} {D:Addr} {acc:List V} (x:HR G am h hp) (ac:AccAt G D acc h am) (hDb:G.base.get? D = none):HR G (am ++ [(D,D)]) h (hp ++ [.list acc]):=by
  obtain ⟨vs,n,h1,h2⟩:=ac.at_
  exact x.plus (fun zz zz e=>e) ac.out (.list h1 (h2.mono (TupKept.refl h) fun i p e=>by rw [List.getElem?_append_left (by obtain ⟨q,_⟩:=List.getElem?_eq_some_iff.mp e; exact q)]; exact e) ac.len hDb)
structure CompEnd (G:Glb) (s:Shared) (am:AM) (K:List V → Hp → Prop) (D L:Addr) (s':Shared):Prop where
  res:∃ acc hp' am',K acc hp' ∧ HR G am' s'.heap hp' ∧ AccAt G D acc s'.heap am' ∧ Aft [] s.heap am s'.heap am' ∧ L ∉ am'.muts
  same:Same G s'
  newD:s.heap.get? D = none
  newL:s.heap.get? L = none
  ne:D ≠ L
  ns:∃ m,s'.heap.Ns L m
  bD:G.base.get? D = none
  bL:G.base.get? L = none
theorem comp_core (O:EnvOk env names) {elt target iter:PySem.Expr} {ifs:List PySem.Expr} {scope:Scope} {pos:Pos} {k:ItK} {isrc ie:Mine.E} {is:List Nat} {ics:List Mine.E} {cap:List (Nat × Nat)} {n:Nat}
    (h:compOk scope names = true) (hs:slotsOk (compNames scope) (relS scope) = true) (hcap:capOk cap (compNames scope) names = true) (hn:n = (compNames scope).length)
    (htg:kTg k target) (hi:SndIt G g C N env names r iter k isrc)
    (ht:∀ cenv,EnvOk cenv (compNames scope) → SndTgt G true cenv (compNames scope) target is) (hc:∀ cenv,EnvOk cenv (compNames scope) → cenv.scope = relS scope → SndTs G g C N cenv (compNames scope) r ifs ics)
    (he:∀ cenv,EnvOk cenv (compNames scope) → cenv.scope = relS scope → Snd G g C N cenv (compNames scope) r elt ie)
    {loc:Locs} {hp:Hp} {Q:V → Hp → Prop} {X:Nat → Hp → Prop} {A:Around} {s:Shared} {am:AM} {E:Value → Shared → Prop} {RR:Value → Addr → Result → Shared → Prop}
    (hw:wpE g C N loc (.comp n cap is k isrc ics ie) hp Q X) (rm:Room X A r) (R:Rel G env names s am loc hp)
    (hRR:∀ D L f s',CompEnd G s am (fun acc hp'=>Q (.ref hp'.length) (hp' ++ [.list acc])) D L s' → RR (.ref D) L (.ok f) s') :
    wpAny (model G.prog G.w) A (eval iter env) (fun x s1=>wpAny (model G.prog G.w) A (pyIter x) (fun it s2=>wpAny (model G.prog G.w) A (newList []) (fun acc s3=>
      wpAny (model G.prog G.w) A (newFunctionEnv scope env.globals (clOf env scope.names []) [] env.qual none .none (some env)) (fun cenv s4=>
        codeAny (model G.prog G.w) A (.compStart (.ListComp elt [⟨target,iter,ifs,0⟩] scope pos) 0 it acc { cenv with scope:=relabel scope env }) (RR acc cenv.locals) s4) E s3) E s2) E s1) E s:=by
  dsimp only [wE_none,wE_comp] at hw
  have hh:=h
  simp only [compOk,Bool.and_eq_true,List.all_eq_true,decide_eq_true_eq,beq_iff_eq] at hh
  obtain ⟨⟨⟨⟨hkind,_⟩,_⟩,hall⟩,hnd⟩:=hh
  have hcell:∀ x ∈ scope.names,x.2 ≠ .cell:=fun x hx e=>by
    have:=(hall x hx).1.1
    rw [e] at this; simp at this
  refine wpAny_mono (hi loc hp (fun xs grd h=>onSome (capL cap loc (List.replicate n none)) fun l0=>compWp grd _ xs l0 [] h _) X A s am E hw rm R) (fun x s1 z=>wpAny_mono z (fun it s2 y=>?_) fun zz zz y=>y) fun zz zz z=>z
  obtain ⟨a,its,xs,grd,P,P2,hp2,am2,rfl,y1,ip,y2,y3,y4,y5,y6,y7,y8⟩:=y
  cases hl0:capL cap loc (List.replicate n none) with
  | none=>rw [hl0] at y1; exact y1.elim
  | some l0=>
    rw [hl0,onSome_some] at y1
    have R2:=R.step y4 y3 y8
    obtain ⟨hh2,gn,dd,tt,os⟩:=s2
    dsimp only at y2 y3 y4
    refine wpAny_newObj_type (wpAny_newFunctionEnv hcell (by intro y hy; simp at hy) (fun h4 hns4 hsb4=>?_) hkind)
    dsimp only at hns4 hsb4 ⊢
    generalize hH3 : hh2.push { cls := .type "list", dict := none, data := .seq ([] : List Value).toArray } = H3 at hns4 hsb4 ⊢
    have hC:H3.objs.size = hh2.objs.size + 1:=by rw [← hH3,Heap.size_push]
    have hDC:hh2.objs.size ≠ H3.objs.size:=by rw [hC]; exact Nat.ne_of_lt (Nat.lt_succ_self _)
    have below:∀ b o,hh2.get? b = some o → b ≠ H3.objs.size ∧ b ≠ hh2.objs.size:=fun b o e=>⟨by rw [hC]; exact Nat.ne_of_lt (Nat.lt_succ_of_lt (Heap.lt_size e)),Nat.ne_of_lt (Heap.lt_size e)⟩
    have old:∀ b o,hh2.get? b = some o → h4.get? b = some o:=fun b o e=>hsb4.extBut b o (below b o e).1 (Heap.get?_push_of_some _ (hH3 ▸ Heap.get?_push_of_some _ e))
    have hacc:h4.get? hh2.objs.size = some (listObj [] 0):=hsb4.extBut _ _ hDC (Heap.get?_push_of_some _ (hH3 ▸ Heap.get?_push_size _ rfl))
    have fresh2:∀ b,hh2.objs.size ≤ b → hh2.get? b = none:=fun b hb=>by
      cases e:hh2.get? b with
      | none=>rfl
      | some o=>exact absurd (Heap.lt_size e) (Nat.not_lt.mpr hb)
    have fresh0:∀ b,hh2.objs.size ≤ b → s.heap.get? b = none:=fun b hb=>by
      cases e:s.heap.get? b with
      | none=>rfl
      | some o=>have:=y4.live b (by rw [e]; rfl); rw [fresh2 b hb] at this; cases this
    have dD:=fresh2 hh2.objs.size (Nat.le_refl _)
    have dL:=fresh2 H3.objs.size (by rw [hC]; exact Nat.le_succ _)
    have notMut:∀ b,hh2.get? b = none → b ∉ am2.muts:=fun b e q=>by
      obtain ⟨p,hp1,e1⟩:=List.mem_map.mp q
      obtain ⟨_,o,ho2,_⟩:=y3.live hp1
      rw [e1,e] at ho2; cases ho2
    have notBase:∀ b,hh2.get? b = none → G.base.get? b = none:=fun b e=>by
      cases q:G.base.get? b with
      | none=>rfl
      | some o=>rw [y3.base _ _ q] at e; cases e
    have notOwn:∀ b,hh2.get? b = none → b ∉ ownA env:=fun b e q=>by
      have:(hh2.get? b).isSome = true:=by
        simp only [ownA,List.mem_cons,List.mem_map] at q
        rcases q with e | ⟨c,hc,e⟩
        · obtain ⟨m,F,_⟩:=R2.fr
          obtain ⟨o,es,ep,ho,_⟩:=F.ns; rw [e,ho]; rfl
        · rw [← e]; exact (R2.apartL c hc).2
      rw [e] at this; cases this
    have af4:Aft [] hh2 am2 h4 am2:=Aft.ofKeep old
    have R4:Rel G env names ⟨h4,gn,dd,tt,os⟩ am2 loc hp2:=R2.step (s':=⟨h4,gn,dd,tt,os⟩) af4 (y3.keepAll old) ⟨y8.gens,y8.os⟩
    have oa:∀ a ∈ its,∃ o,hh2.get? a = some o:=fun a ha=>by obtain ⟨o,ho,_⟩:=ip.live _ _ _ y2 a ha; exact ⟨o,ho⟩
    have cl:=comp_rel O h R4 (L:=H3.objs.size) (m:=_) hns4 (notOwn _ dL) (notMut _ dL) (by rw [hC]; exact nlt R2.size (Nat.le_succ _)) hcap (l0:=l0) (by rw [← hn]; exact hl0)
    have CO:=compEnv_ok O h hs (clOf env scope.names []) H3.objs.size
    have sc:(compEnvC scope (clOf env scope.names []) H3.objs.size env).scope = relS scope:=relabel_is O h
    have aOwn:∀ a ∈ its,a ∉ ownA (compEnvC scope (clOf env scope.names []) H3.objs.size env):=fun a ha q=>by
      obtain ⟨o1,hoa⟩:=oa a ha
      have:a ∈ H3.objs.size :: (clOf env scope.names []).map (·.2):=q
      rcases List.mem_cons.mp this with e | e
      · rw [e,dL] at hoa; cases hoa
      · obtain ⟨c,hc,e⟩:=List.mem_map.mp e
        have:(s.heap.get? c.2).isSome = true:=by
          rcases clOf_mem hc with e' | ⟨e1,e2⟩
          · cases e'
          · have fr:=(hall _ e1).1.2
            have fm:(c.1,NameKind.cell) ∈ names:=by simpa [List.contains_iff_mem] using fr
            obtain ⟨d,v,hd,⟨o,ho,_⟩⟩:=R.cells c.1 fm
            rw [hd] at e2
            have:c.2 = d:=e2
            rw [this,ho]; rfl
        rw [e,y5 a ha] at this; cases this
    have DOwn:hh2.objs.size ∉ ownA (compEnvC scope (clOf env scope.names []) H3.objs.size env):=fun q=>by
      have:hh2.objs.size ∈ H3.objs.size :: (clOf env scope.names []).map (·.2):=q
      rcases List.mem_cons.mp this with e | e
      · exact hDC e
      · obtain ⟨c,hc,e⟩:=List.mem_map.mp e
        have:(hh2.get? c.2).isSome = true:=by
          rcases clOf_mem hc with e' | ⟨e1,e2⟩
          · cases e'
          · have fr:=(hall _ e1).1.2
            have fm:(c.1,NameKind.cell) ∈ names:=by simpa [List.contains_iff_mem] using fr
            obtain ⟨d,v,hd,⟨o,ho,_⟩⟩:=R2.cells c.1 fm
            rw [hd] at e2
            have:c.2 = d:=e2
            rw [this,ho]; rfl
        rw [e,dD] at this; cases this
    have run:=comp_run (K:=fun acc hp'=>Q (.ref hp'.length) (hp' ++ [.list acc])) (D:=hh2.objs.size) (s0:=s) (am0:=am) (iter:=iter) (scope:=scope) (pos:=pos) ip htg (ht _ CO) (hc _ CO sc) (he _ CO sc) rm aOwn y7 y5 DOwn (notBase _ dD) (fresh0 _ (Nat.le_refl _)) (fun e=>by obtain ⟨o1,hoa⟩:=oa _ e; rw [dD] at hoa; cases hoa)
      (fresh0 _ (by show hh2.objs.size ≤ H3.objs.size; rw [hC]; exact Nat.le_succ _)) xs l0 [] hp2 ⟨h4,gn,dd,tt,os⟩ am2 y1 (ip.after y2 af4 (by simp) y6) cl y6
      ⟨⟨[],0,hacc,.nil⟩,Nat.zero_le _,notMut _ dD⟩ (y4.trans af4)
    have fin:codeAny (model G.prog G.w) A (.compLoop (.ListComp elt [⟨target,iter,ifs,0⟩] scope pos) 0 (.ref a) (.ref hh2.objs.size) (compEnvC scope (clOf env scope.names []) H3.objs.size env)) (RR (.ref hh2.objs.size) H3.objs.size) ⟨h4,gn,dd,tt,os⟩:=by
      refine codeAny_mono run fun res s' z=>?_
      cases res with
      | error e=>exact z.elim
      | ok f=>
        obtain ⟨acc',hp',am',l',z1,z2,z3,z4⟩:=z
        obtain ⟨m',F',_⟩:=z2.fr
        exact hRR _ _ f s' ⟨⟨acc',hp',am',z1,z2.hr,z3,z4,(z2.own _ (by simp [ownA,compEnvC])).1⟩,z2.same,fresh0 _ (Nat.le_refl _),fresh0 _ (by rw [hC]; exact Nat.le_succ _),hDC,⟨m',F'.ns⟩,notBase _ dD,notBase _ dL⟩
    exact codeAny_compStart_list fin (ip.again A ⟨h4,gn,dd,tt,os⟩ am2 xs _ _ (ip.after y2 af4 (by simp) y6) fin)
theorem snd_comp (O:EnvOk env names) {elt target iter:PySem.Expr} {ifs:List PySem.Expr} {scope:Scope} {pos:Pos} {k:ItK} {isrc ie:Mine.E} {is:List Nat} {ics:List Mine.E} {cap:List (Nat × Nat)} {n:Nat}
    (h:compOk scope names = true) (hs:slotsOk (compNames scope) (relS scope) = true) (hcap:capOk cap (compNames scope) names = true) (hn:n = (compNames scope).length)
    (hf:foldedPlain iter = true) (htg:kTg k target) (hi:SndIt G g C N env names r iter k isrc)
    (ht:∀ cenv,EnvOk cenv (compNames scope) → SndTgt G true cenv (compNames scope) target is) (hc:∀ cenv,EnvOk cenv (compNames scope) → cenv.scope = relS scope → SndTs G g C N cenv (compNames scope) r ifs ics)
    (he:∀ cenv,EnvOk cenv (compNames scope) → cenv.scope = relS scope → Snd G g C N cenv (compNames scope) r elt ie) :
    Snd G g C N env names r (.ListComp elt [⟨target,iter,ifs,0⟩] scope pos) (.comp n cap is k isrc ics ie):=fun loc hp Q X A s am hw rm R=>by
  have hh:=h
  simp only [compOk,Bool.and_eq_true,List.all_eq_true,decide_eq_true_eq,beq_iff_eq] at hh
  obtain ⟨⟨⟨⟨hkind,_⟩,_⟩,hall⟩,hnd⟩:=hh
  rw [eval_ListComp]
  refine wpAny_comprehension_free (use:=none) rfl (folded_plain hf env) (closureFor_is fun x hx e=>?_) hkind (fun x hx e=>?_) (comp_core O h hs hcap hn htg hi ht hc he hw rm R fun D L f s' z=>?_)
  · have fr:=(hall _ hx).1.2
    rw [e] at fr
    have fm:(x.1,NameKind.cell) ∈ names:=by simpa [List.contains_iff_mem] using fr
    obtain ⟨c,_,hc,_⟩:=R.cells x.1 fm
    exact ⟨c,hc⟩
  · have:=(hall _ hx).2
    rw [e] at this
    simpa using this
  · refine of_P fun P hP=>?_
    obtain ⟨acc,hp',am',z1,z2,z3,z4,z5⟩:=z.res
    obtain ⟨m,hm⟩:=z.ns
    refine hP ⟨m,hm,fun h' hs'=>?_⟩
    refine of_P fun P hP=>?_
    obtain ⟨oL,hL,hLi,eL,pL,dL⟩:=ns_obj hm
    obtain ⟨hr',tk⟩:=z2.sameBut hs' hL hLi (fun zz zz q=>by rw [q] at dL; cases dL) z5 z.bL
    have kb:KeepBut [L] s'.heap h':=.one fun b o ne e=>(hs'.2 b ne).trans e
    have ac:=z3.keepBut kb (fun q=>z.ne (List.mem_singleton.mp q)) tk
    have af:=z4.transBut kb (all_one z.newL) tk
    have lst:(am' ++ [(D,D)])[hp'.length]? = some (D,D):=by rw [← hr'.len]; exact am_last _
    refine hP ⟨.ref hp'.length,_,_,z1,.ref lst,hr'.addAt ac z.bD,?_,⟨z.same.gens,z.same.os⟩⟩
    obtain ⟨l,e,f2⟩:=af.ext
    refine ⟨fun b o e n1 n2=>af.keep b o e n1 n2,af.tup,⟨l ++ [(D,D)],by rw [e]; simp,fun p hp1=>?_⟩,af.live⟩
    rcases List.mem_append.mp hp1 with q | q
    · exact f2 p q
    · rw [List.mem_singleton.mp q]; exact ⟨z.newD,z.newD⟩
end
end Mine
end
noncomputable section
namespace Mine
open PySem PySem.W PyProof.Rows
section
variable {G:Glb} {g:Genv} {C N:Oracle} {env:Env} {names:List (Str × NameKind)} {r:Nat}
noncomputable def swapB (scope:Scope) (x:Str) (k:NameKind) (p pos:Pos):Bool:=k == .local && p.line == pos.line && !(scope.names.any fun q=>q.1 == x && (q.2 == .local || q.2 == .cell))
theorem swaps_comp (O:EnvOk env names) {elt:PySem.Expr} {gens:List Comprehension} {scope:Scope} {pos p:Pos} {x:Str} {k:NameKind} {line:Nat} (hk:env.kindOf x = some k) :
    swapsWith (.ListComp elt gens scope pos) (some (.Name x p)) line env = pure (swapB scope x k p pos):=by
  show (pure (env.blockKind == .function && env.kindOf x == some .local && p.line == pos.line && !(scope.names.any fun (n,k)=>n == x && (k == .local || k == .cell))):Sem Bool) = _
  have hb:env.blockKind = .function:=by unfold Env.blockKind; rw [O.kind]; rfl
  rw [hb,hk]
  unfold swapB
  congr 1
theorem sndS_asgL0 (O:EnvOk env names) {e:PySem.Expr} {i:Mine.E} {x:Str} {k:NameKind} {j:Nat} {p pos:Pos} (hx:names[j]? = some (x,k)) (hk:k = .local ∨ k = .cell) (hc:swapsWith e (some (.Name x p)) pos.line env = pure false) (h1:Snd G g C N env names r e i) :
    SndS G g C N env names r (.Assign [.Name x p] e pos) (.asg (.loc j) i):=fun σ KN KR X A s am E h rm R=>by
  dsimp only [wS_asg,wT_loc] at h
  refine wpAny_Assign_Name (wpAny_mono (h1 σ.loc σ.hp _ X A s am h rm R) (fun v s1 z=>?_) fun zz zz z=>z.no.elim) hc
  obtain ⟨c,p1,am1,⟨z0,z1⟩,z2,z3,z4,z5⟩:=z
  exact store_ok O (R.step z4 z3 z5) hx hk z2 fun s' R' a'=>⟨_,p1,am1,z1,R',z4.weaken.trans a'⟩
theorem sndS_asgC (O:EnvOk env names) {elt target iter:PySem.Expr} {ifs:List PySem.Expr} {scope:Scope} {pos p spos:Pos} {k:ItK} {isrc ie:Mine.E} {is:List Nat} {ics:List Mine.E} {cap:List (Nat × Nat)} {n:Nat} {x:Str} {kx:NameKind} {j:Nat}
    (hx:names[j]? = some (x,kx)) (hk:kx = .local ∨ kx = .cell)
    (h:compOk scope names = true) (hs:slotsOk (compNames scope) (relS scope) = true) (hcap:capOk cap (compNames scope) names = true) (hn:n = (compNames scope).length)
    (hf:foldedPlain iter = true) (htg:kTg k target) (hi:SndIt G g C N env names r iter k isrc)
    (ht:∀ cenv,EnvOk cenv (compNames scope) → SndTgt G true cenv (compNames scope) target is) (hc:∀ cenv,EnvOk cenv (compNames scope) → cenv.scope = relS scope → SndTs G g C N cenv (compNames scope) r ifs ics)
    (he:∀ cenv,EnvOk cenv (compNames scope) → cenv.scope = relS scope → Snd G g C N cenv (compNames scope) r elt ie) :
    SndS G g C N env names r (.Assign [.Name x p] (.ListComp elt [⟨target,iter,ifs,0⟩] scope pos) spos) (.asg (.loc j) (.comp n cap is k isrc ics ie)):=by
  have hkx:=(O.kinds j x kx hx).1
  cases hb:swapB scope x kx p pos with
  | false=>exact sndS_asgL0 O hx hk (by rw [swaps_comp O hkx,hb]) (snd_comp O h hs hcap hn hf htg hi ht hc he)
  | true=>
    intro σ KN KR X A s am E hw rm R
    dsimp only [wS_asg,wT_loc] at hw
    refine of_P fun P hP=>?_
    have hh:=h
    simp only [compOk,Bool.and_eq_true,List.all_eq_true,decide_eq_true_eq,beq_iff_eq] at hh
    obtain ⟨⟨⟨⟨hkind,_⟩,_⟩,hall⟩,hnd⟩:=hh
    refine hP ?_
    rw [exec_Assign_Name_used _ _ _ _ (by rw [swaps_comp O hkx,hb])]
    refine wpAny_bind (wpAny_standAt (wpAny_bind ?_))
    show wpAny _ A (do let _ ← comprehension (.ListComp elt [⟨target,iter,ifs,0⟩] scope pos) scope env _ (newList []) false (eval iter env) (some (assign (.Name x p) env))) _ _ s
    refine wpAny_bind (wpAny_mono (wpAny_comprehension_free (use:=some (assign (.Name x p) env)) (Q:=fun zz s'=>SP G env names s am KN KR .next s') rfl (folded_plain hf env) (closureFor_is fun y hy e=>?_) hkind (fun y hy e=>?_)
      (comp_core O h hs hcap hn htg hi ht hc he hw rm R fun D L f s' z=>?_)) (fun zz s' hq=>wpAny_pure (wpAny_pure hq)) fun zz zz e=>e)
    · have fr:=(hall _ hy).1.2
      rw [e] at fr
      have fm:(y.1,NameKind.cell) ∈ names:=by simpa [List.contains_iff_mem] using fr
      obtain ⟨c,_,hc,_⟩:=R.cells y.1 fm
      exact ⟨c,hc⟩
    · have:=(hall _ hy).2
      rw [e] at this
      simpa using this
    · refine of_P fun P hP=>?_
      obtain ⟨acc,hp',am',z1,z2,z3,z4,z5⟩:=z.res
      obtain ⟨m,hm⟩:=z.ns
      have hr':=z2.addAt z3 z.bD
      have lst:(am' ++ [(D,D)])[hp'.length]? = some (D,D):=by rw [← z2.len]; exact am_last _
      have af:Aft [] s.heap am s'.heap (am' ++ [(D,D)]):=by
        obtain ⟨l,e,f2⟩:=z4.ext
        refine ⟨fun b o e n1 n2=>z4.keep b o e n1 n2,z4.tup,⟨l ++ [(D,D)],by rw [e]; simp,fun p hp1=>?_⟩,z4.live⟩
        rcases List.mem_append.mp hp1 with q | q
        · exact f2 p q
        · rw [List.mem_singleton.mp q]; exact ⟨z.newD,z.newD⟩
      have R':=R.step af hr' z.same
      have hLo:L ∉ ownA env:=fun q=>by
        have:(s.heap.get? L).isSome = true:=by
          simp only [ownA,List.mem_cons,List.mem_map] at q
          rcases q with e | ⟨c,hc,e⟩
          · obtain ⟨m,F,_⟩:=R.fr
            obtain ⟨o,es,ep,ho,_⟩:=F.ns; rw [e,ho]; rfl
          · rw [← e]; exact (R.apartL c hc).2
        rw [z.newL] at this; cases this
      have hLm:L ∉ (am' ++ [(D,D)]).muts:=by
        simp only [AM.muts,List.map_append,List.mem_append,not_or]
        exact ⟨z5,by simpa using Ne.symm z.ne⟩
      refine hP ?_
      show wpAny _ A (assign (.Name x p) env (.ref D)) _ _ _
      refine wpAny_assign_Name (store_ok O R' hx hk (.ref lst) fun s2 R2 a2=>?_)
      refine of_P fun P hP=>?_
      obtain ⟨oL,hL,hLi,eL,pL,dL⟩:=ns_obj hm
      have hL2:=a2.keep L oL hL hLo hLm
      refine hP ⟨m,hm.at' fun o e=>a2.keep L o e hLo hLm,fun h' hs'=>?_⟩
      obtain ⟨hr2,tk⟩:=R2.hr.sameBut hs' hL2 hLi (fun zz zz q=>by rw [q] at dL; cases dL) hLm z.bL
      have kb:KeepBut [L] s2.heap h':=.one fun b o ne e=>(hs'.2 b ne).trans e
      exact ⟨_,_,_,z1.2,R2.keepBut (tk:=s2.toks) kb hr2 tk (all_one hLo),(af.weaken.trans a2).transBut kb (all_one z.newL) tk⟩
end
end Mine
end
noncomputable section
namespace Mine
open PySem PySem.W PyProof.Rows
section
variable {G:Glb} {g:Genv} {C N:Oracle} {env:Env} {names:List (Str × NameKind)} {r:Nat}
theorem EvP.toB {s s':Shared} {am:AM} {Q:Bool → Hp → Prop} {b:Bool} (x:EvP G s am (fun v h=>onSome (isB v) fun b=>Q b h) (.bool b) s'):EvPb G s am Q b s':=by
  obtain ⟨v,hp,am',x1,x2,x3,x4,x5⟩:=x
  cases x2
  exact ⟨hp,am',x1,x3,x4,x5⟩
theorem sndT_cmp2 (GO:GOk G) {e1 e2 e3:PySem.Expr} {i1 i2 i3:Mine.E} {o1 o2:CmpOp} {c1 c2:C2} {pos:Pos} (ho1:opC o1 = some c1) (ho2:opC o2 = some c2) (hm:lastMarks [o1,o2] [e2,e3] = false)
    (h1:Snd G g C N env names r e1 i1) (h2:Snd G g C N env names r e2 i2) (h3:Snd G g C N env names r e3 i3):SndT G g C N env names r (.Compare e1 [o1,o2] [e2,e3] pos) (.cmp2 c1 c2 i1 i2 i3):=fun loc hp Q X A s am whole h rm R zz=>by
  dsimp only [wE_cmp2] at h
  refine isTrue_chain (wpAny_mono (chain2 (K:=fun v h=>onSome (isB v) fun b=>Q b h) GO h1 h2 h3 ho1 ho2 rm R h (W:=fun va vb s2=>wpAny (model G.prog G.w) A (compareOp o1 va vb) (fun c s₂=>wpAny (model G.prog G.w) A (truthy c)
      (fun t s₃=>if t then wpAny (model G.prog G.w) A (testChain pos vb [o2] [eval e3 env]) (EvPb G s am Q) XN s₃ else EvPb G s am Q false s₃) XN s₂) XN s2) fun va vb s2 z=>?_) (fun va s1 z=>test_link z) fun zz zz z=>z) hm
  refine wpAny_mono z (fun c s3 y=>?_) fun zz zz y=>y
  rcases y with ⟨rfl,y⟩ | ⟨rfl,y⟩
  · exact wpAny_truthy_bool y.toB
  · refine wpAny_truthy_bool (test_last (wpAny_mono y (fun vc s4 w=>wpAny_mono w (fun c s5 u=>?_) fun zz zz w=>w) fun zz zz w=>w))
    obtain ⟨v,hp5,am5,u1,u2,u3,u4,u5⟩:=u
    cases u2 with
    | bool b=>exact wpAny_truthy_bool ⟨hp5,am5,u1,u3,u4,u5⟩
    | _=>exact u1.elim
theorem snd_gint (GK : GG G g) (O : EnvOk env names) {x : Str} {i : Int} {t : Tok} {pos : Pos} (hk : env.kindOf x = some .globalImplicit) (hd : (x == ("__debug__" : Str)) = false) (e : nsIn G.K mainGlobals x = some (some (.int i t))) :
    Snd G g C N env names r (.Name x pos) (.int i):=fun loc hp Q X A s am h rm R=>by
  dsimp only [wE_int] at h
  exact snd_global GK O R hk hd e (evp_here h (.int i t) R.hr rfl R.same)
end
theorem idxStr_ok {x:Str}:∀ {l:List Str} {i:Nat},idxStr x l = some i → l[i]? = some x
  | [],_,h=>by cases h
  | y :: r,i,h=>by
    unfold idxStr at h
    split at h
    · rename_i e; cases h; rw [beq_iff_eq.mp e]; rfl
    · cases q:idxStr x r with
      | none=>rw [q] at h; cases h
      | some j=>rw [q] at h; cases h; simpa using idxStr_ok q
theorem idxAddr_ok {x:Addr}:∀ {l:List Addr} {i:Nat},idxAddr x l = some i → l[i]? = some x
  | [],_,h=>nomatch h
  | y :: r,i,h=>by
    unfold idxAddr at h
    cases q:idxAddr x r with
    | some j=>rw [q] at h; cases h; exact idxAddr_ok (l:=r) q
    | none=>
      rw [q] at h
      obtain ⟨h1,h2⟩:=if_some h
      cases h2; rw [beq_iff_eq.mp h1]; rfl
theorem idxName_ok {x:Str}:∀ {l:List (Str × NameKind)} {i:Nat} {k:NameKind},idxName x l = some (i,k) → l[i]? = some (x,k)
  | [],_,_,h=>by cases h
  | y :: r,i,k,h=>by
    unfold idxName at h
    split at h
    · rename_i e; cases h; rw [beq_iff_eq.mp e]; rfl
    · cases q:idxName x r with
      | none=>rw [q] at h; cases h
      | some j=>obtain ⟨j,k'⟩:=j; rw [q] at h; cases h; simpa using idxName_ok q
theorem if_g {α:Type} {P:α → Prop} {x y:Str} {c b:α} {r:Option α} (h:(if x == y then some c else r) = some b) (hc:x = y → P c) (k:r = some b → P b):P b:=by
  by_cases q:x == y
  · cases (if_pos q).symm.trans h; exact hc (beq_iff_eq.mp q)
  · exact k ((if_neg q).symm.trans h)
theorem biOf_ok {x:Str} {b:Bi} (h:biOf x = some b):x = biN b:=if_g (P:=fun b=>x = biN b) h id fun h=>if_g (P:=fun b=>x = biN b) h id fun h=>if_g (P:=fun b=>x = biN b) h id fun h=>if_g (P:=fun b=>x = biN b) h id fun h=>if_g (P:=fun b=>x = biN b) h id fun h=>if_g (P:=fun b=>x = biN b) h id fun h=>if_g (P:=fun b=>x = biN b) h id fun h=>nomatch h
theorem tyOf_ok {x:Str} {t:Ty} (h:tyOf x = some t):∃ T,tyS t = some T ∧ x = Str.ofString T:=if_g (P:=fun t=>∃ T,tyS t = some T ∧ x = Str.ofString T) h (fun e=>⟨_,rfl,e⟩) fun h=>if_g (P:=fun t=>∃ T,tyS t = some T ∧ x = Str.ofString T) h (fun e=>⟨_,rfl,e⟩) fun h=>nomatch h
theorem intC_some {c:Const} {a:Int} (h:intC c = some a):c = .int a:=by
  cases c <;> cases h
  rfl
theorem constI_some {e:PySem.Expr} {a:Int} (h:constI e = some a):∃ k p,e = .Constant (.int a) k p:=by
  obtain ⟨x,_,h⟩:=bind_some h
  exact ⟨x.1.2.1,x.1.2.2,x.2.trans (by rw [intC_some h])⟩
theorem nmE_some {e:PySem.Expr} {x:Str × Pos} (h:nmE e = some x):e = .Name x.1 x.2:=by
  obtain ⟨x,_,rfl⟩:=map_some' h
  exact x.2
theorem tupE_some {e:PySem.Expr} {x:List PySem.Expr × Nat × Pos} (h:tupE e = some x):e = .Tuple x.1 x.2.1 x.2.2:=by
  obtain ⟨x,_,rfl⟩:=map_some' h
  exact x.2
theorem callA_some {e:PySem.Expr} {x:PySem.Expr × List PySem.Expr × List Keyword × Pos} (h:callA e = some x):e = .Call x.1 x.2.1 x.2.2.1 x.2.2.2:=by
  obtain ⟨x,_,rfl⟩:=map_some' h
  exact x.2
theorem single_some {α:Type} {l:List α} {a:α} (h:single l = some a):l = [a]:=by
  cases l with
  | nil=>cases h
  | cons x r=>cases r with
    | nil=>cases h; rfl
    | cons _ _=>cases h
theorem pair_some {α:Type} {l:List α} {p:α × α} (h:pair l = some p):l = [p.1,p.2]:=by
  cases l with
  | nil=>cases h
  | cons a r=>
    obtain ⟨b,h1,h2⟩:=map_some' (show (single r).map _ = some p from h)
    subst h2
    rw [single_some h1]
end Mine
end
noncomputable section
namespace Mine
open PySem PySem.W PyProof.Rows
structure CxOk (cx:Cx) (G:Glb):Prop where
  K:G.K = cx.K
  ws:G.ws = cx.ws
  fn:∀ (f:Nat) (a:Addr),cx.fnL[f]? = some a → G.fnA f = some a
  cls:∀ (c:Nat) (a:Addr),cx.clsL[c]? = some a → G.cls c = some a
section
variable {cx:Cx} {G:Glb} {g:Genv} {C N:Oracle} {r rn:Nat}
theorem isGl_ok {env : Env} {sc : Scope} (hs : env.scope = sc) {x : Str} (h : isGl sc x = true) : env.kindOf x = some .globalImplicit ∧ (x == ("__debug__" : Str)) = false := by
  simp only [isGl,Bool.and_eq_true,beq_iff_eq,Bool.not_eq_true'] at h
  refine ⟨?_,h.2⟩
  unfold Env.kindOf; rw [hs]; exact h.1
set_option tactic.hygienic true in
theorem ct_snd (X:CxOk cx G) {env:Env} {names:List (Str × NameKind)} {c:Const} {k:Nat} {p:Pos} {i:Mine.E} (h:ctOf cx c = some i):Snd G g C N env names r (.Constant c k p) i:=by
  cases c <;> simp only [ctOf] at h
  · cases h; exact snd_none k p
  · cases h; exact snd_bool _ k p
  · cases h; exact snd_int _ k p
  · cases h
  · cases h
  · rename_i s
    cases q:idxStr s cx.ws with
    | none=>rw [q] at h; cases h
    | some j=>rw [q] at h; cases h; exact snd_str (by rw [X.ws]; exact idxStr_ok q) k p
  · cases h
  · cases h
set_option tactic.hygienic true in
theorem nm_snd (X:CxOk cx G) (GK:GG G g) {env:Env} {names:List (Str × NameKind)} {sc:Scope} (O:EnvOk env names) (hs:env.scope = sc) {x:Str} {p:Pos} {i:Mine.E} (h:nmOf cx names sc x = some i):Snd G g C N env names r (.Name x p) i:=by
  unfold nmOf at h
  split at h
  · rename_i q hq
    cases h
    exact snd_loc O (idxName_ok (k:=q.2) (by rw [hq])) p
  · split at h
    · rename_i hg
      split at h
      · rename_i hm
        cases h
        obtain ⟨h1,h2⟩:=isGl_ok hs hg
        exact snd_gint GK O h1 h2 (by rw [X.K]; exact hm)
      · cases h
    · cases h
theorem pow_snd {env:Env} {names:List (Str × NameKind)} {a b:PySem.Expr} {op:Operator} {pos:Pos} {i:Mine.E} (h:powOf a op b = some i):Snd G g C N env names r (.BinOp a op b pos) i:=by
  obtain ⟨rfl,h⟩:=if_some h
  obtain ⟨x,h1,h⟩:=bind_some h
  obtain ⟨y,h2,h⟩:=bind_some h
  obtain ⟨q,h⟩:=if_some h
  cases h
  obtain ⟨_,_,rfl⟩:=constI_some h1
  obtain ⟨_,_,rfl⟩:=constI_some h2
  exact snd_pow q.1 q.2.1 q.2.2
theorem tgs_ok {b:Bool} {names:List (Str × NameKind)} {es:List PySem.Expr}:∀ {is:List Nat},tgsOf b names es = some is → TgNames b names es is:=by
  induction es with
  | nil=>intro is h; cases h; exact .nil
  | cons e es ih=>
    intro is h
    obtain ⟨x,h1,h⟩:=bind_some (show (nmE e).bind _ = some is from h)
    obtain ⟨p,h2,h⟩:=bind_some h
    obtain ⟨js,h3,h⟩:=bind_some h
    obtain ⟨hk,h⟩:=if_some h
    cases h
    rw [nmE_some h1]
    refine .cons (idxName_ok (k:=p.2) (by rw [h2])) ?_ (ih h3)
    simp only [Bool.or_eq_true,beq_iff_eq,Bool.and_eq_true,Bool.not_eq_true'] at hk
    exact hk
theorem tg_ok {b:Bool} {names:List (Str × NameKind)} {e:PySem.Expr} {is:List Nat} (h:tgOf b names e = some is) {env:Env} (O:EnvOk env names):SndTgt G b env names e is:=by
  change (match nmE e with | some _=>tgsOf b names [e] | none=>(tupE e).bind fun t=>(tgsOf b names t.1).bind fun is=>if 2 ≤ is.length then some is else none) = some is at h
  cases hn:nmE e with
  | some x=>
    rw [hn] at h
    have:=tgs_ok h
    cases this with
    | cons h1 h2 t=>cases t; exact tgt_name O h1 h2
  | none=>
    rw [hn] at h
    obtain ⟨t,h1,h⟩:=bind_some h
    obtain ⟨js,h2,h⟩:=bind_some h
    obtain ⟨h3,h⟩:=if_some h
    cases h
    rw [tupE_some h1]
    exact tgt_tuple O (tgs_ok h2) h3
theorem bool_snd {env:Env} {names:List (Str × NameKind)} {op:BoolOp} {pos:Pos} {es:List PySem.Expr} {is:List Mine.E} (t:SndL G g C N env names r es is):∀ {i:Mine.E},boolOf op is = some i → Snd G g C N env names r (.BoolOp op es pos) i:=by
  induction t with
  | nil=>intro i h; cases h
  | cons h1 h2 t ih=>
    intro i h
    cases t with
    | nil=>cases h; exact snd_one h2
    | cons h3 h4 t=>
      obtain ⟨j,e1,e2⟩:=map_some' (show (boolOf op (_ :: _)).map (joinB op _) = some _ from h)
      have ih:=ih e1
      subst e2
      cases op with
      | And=>exact snd_and h2 ih
      | Or=>exact snd_or h2 ih
theorem boolT_snd {env:Env} {names:List (Str × NameKind)} {op:BoolOp} {pos:Pos} {es:List PySem.Expr} {is:List Mine.E} (t:SndTs G g C N env names r es is):∀ {i:Mine.E},boolOf op is = some i → SndT G g C N env names r (.BoolOp op es pos) i:=by
  induction t with
  | nil=>intro i h; cases h
  | cons h2 t ih=>
    intro i h
    cases t with
    | nil=>
      cases h
      cases op with
      | And=>exact sndT_one_and h2
      | Or=>exact sndT_one_or h2
    | cons h4 t=>
      obtain ⟨j,e1,e2⟩:=map_some' (show (boolOf op (_ :: _)).map (joinB op _) = some _ from h)
      have ih:=ih e1
      subst e2
      cases op with
      | And=>exact sndT_and h2 ih
      | Or=>exact sndT_or h2 ih
theorem cmp_snd (GO:GOk G) {env:Env} {names:List (Str × NameKind)} {a:PySem.Expr} {ops:List CmpOp} {cs:List PySem.Expr} {pos:Pos} {i k:Mine.E} {js:List Mine.E} (hm:lastMarks ops cs = false) (h1:Snd G g C N env names r a i) (h2:SndL G g C N env names r cs js) (h:cmpOf ops i js = some k) :
    Snd G g C N env names r (.Compare a ops cs pos) k ∧ SndT G g C N env names r (.Compare a ops cs pos) k:=by
  change (match single ops with | some op=>(single js).bind fun j=>cmp1 op i j | none=>(pair ops).bind fun o=>(pair js).bind fun j=>cmp2 o.1 o.2 i j.1 j.2) = some k at h
  cases ho:single ops with
  | some o1=>
    rw [ho] at h
    obtain ⟨j,hj,h'⟩:=bind_some h
    have e1:=single_some ho
    have e2:=single_some hj
    subst e1; subst e2
    cases h2 with
    | cons _ q1 t=>
      cases t
      obtain ⟨o,e1,e2⟩:=map_some' h'
      subst e2
      exact ⟨snd_cmp GO e1 hm h1 q1,sndT_cmp GO e1 hm h1 q1⟩
  | none=>
    rw [ho] at h
    obtain ⟨o,h3,h'⟩:=bind_some h
    obtain ⟨j,h4,h''⟩:=bind_some h'
    have e1:=pair_some h3
    have e2:=pair_some h4
    subst e1; subst e2
    cases h2 with
    | cons _ q1 t=>
      cases t with
      | cons _ q2 t=>
        cases t
        obtain ⟨c1,e1,e2⟩:=bind_some h''
        obtain ⟨c2,e3,e4⟩:=map_some' e2
        subst e4
        exact ⟨snd_cmp2 GO e1 e3 hm h1 q1 q2,sndT_cmp2 GO e1 e3 hm h1 q1 q2⟩
theorem callF_name {f:PySem.Expr} {x:Str} (h:callF f = .name x):∃ p,f = .Name x p:=by
  unfold callF at h
  cases q:nmV f with
  | some y=>rw [q] at h; cases h; exact ⟨_,y.2⟩
  | none=>
    rw [q] at h
    cases q2:atV f with
    | some y=>rw [q2] at h; cases h
    | none=>rw [q2] at h; cases h
theorem callF_meth {f a:PySem.Expr} {x:Str} {ap:Pos} (h:callF f = .meth a x ap):f = .Attribute a x ap:=by
  unfold callF at h
  cases q:nmV f with
  | some y=>rw [q] at h; cases h
  | none=>
    rw [q] at h
    cases q2:atV f with
    | some y=>rw [q2] at h; cases h; exact y.2
    | none=>rw [q2] at h; cases h
theorem callK_name {f:PySem.Expr} {kws:List Keyword} {x:Str} (h:callK f kws = .name x):(∃ p,f = .Name x p) ∧ kws = []:=by
  cases kws with
  | nil=>exact ⟨callF_name h,rfl⟩
  | cons _ _=>cases h
theorem callK_meth {f a:PySem.Expr} {kws:List Keyword} {x:Str} {ap:Pos} (h:callK f kws = .meth a x ap):f = .Attribute a x ap ∧ kws = []:=by
  cases kws with
  | nil=>exact ⟨callF_meth h,rfl⟩
  | cons _ _=>cases h
theorem slc_ok {b:PySem.Expr} {p:Option PySem.Expr × Option PySem.Expr} (h:slcParts b = some p):∃ q,b = .Slice p.1 p.2 none q:=by
  obtain ⟨⟨⟨lo,hi,st,q⟩,rfl⟩,_,h⟩:=bind_some h
  cases st with
  | none=>cases h; exact ⟨_,rfl⟩
  | some _=>cases h
theorem oneGen_ok {gens:List Comprehension} {c:Comprehension} (h:oneGen gens = some c):gens = [⟨c.target,c.iter,c.ifs,0⟩]:=by
  unfold oneGen at h
  split at h
  · obtain ⟨h1,h2⟩:=if_some h
    cases h2
    obtain ⟨a,b,d,e⟩:=c
    have:e = 0:=h1
    subst this; rfl
  · cases h
inductive HdR (cx:Cx) (sc:Scope) (x:Str):Head → Prop
  | fn {f:Nat} {a:Addr}:isGl sc x = true → nsIn cx.K mainGlobals x = some (some (.ref a)) → cx.fnL[f]? = some a → HdR cx sc x (.fn f)
  | cls {c:Nat} {a:Addr}:isGl sc x = true → nsIn cx.K mainGlobals x = some (some (.ref a)) → cx.clsL[c]? = some a → HdR cx sc x (.cls c)
  | bi {b:Bi}:isGl sc x = true → nsIn cx.K mainGlobals x = some none → x = biN b → HdR cx sc x (.bi b)
  | isi : isGl sc x = true → nsIn cx.K mainGlobals x = some none → x = "isinstance" → HdR cx sc x .isi
theorem hd_ok {sc:Scope} {x:Str} {h:Head} (e:hdOf cx sc x = some h):HdR cx sc x h:=by
  unfold hdOf at e
  obtain ⟨hg,e⟩:=if_some e
  cases hns:nsIn cx.K mainGlobals x with
  | none=>rw [hns] at e; cases e
  | some o=>
    rw [hns] at e
    cases o with
    | none=>
      dsimp only at e
      by_cases hi : (x == "isinstance") = true
      · rw [if_pos hi] at e; cases e; exact .isi hg hns (beq_iff_eq.mp hi)
      · rw [if_neg hi] at e
        obtain ⟨b,e1,e2⟩:=map_some' e
        subst e2
        exact .bi hg hns (biOf_ok e1)
    | some v=>
      cases v with
      | ref a=>
        dsimp only at e
        cases hf:idxAddr a cx.fnL with
        | some f=>rw [hf] at e; cases e; exact .fn hg hns (idxAddr_ok hf)
        | none=>
          rw [hf] at e
          dsimp only at e
          cases hc:idxAddr a cx.clsL with
          | none=>rw [hc] at e; cases e
          | some c=>rw [hc] at e; cases e; exact .cls hg hns (idxAddr_ok hc)
      | _=>cases e
structure AllE (cx:Cx) (G:Glb) (g:Genv) (C N:Oracle) (r:Nat) (names:List (Str × NameKind)) (sc:Scope) (env:Env) (n:Nat):Prop where
  e:∀ e i,compE cx names sc n e = some i → Snd G g C N env names r e i
  o:∀ e i,compO cx names sc n e = some i → SndO G g C N env names r e i
  es:∀ es is,compEs cx names sc n es = some is → SndL G g C N env names r es is
  ts:∀ es is,compTs cx names sc n es = some is → SndTs G g C N env names r es is
  it:∀ e k,compI cx names sc n e = some k → SndIt G g C N env names r e k.1 k.2
  t:∀ e i,compT cx names sc n e = some i → SndT G g C N env names r e i
theorem fits_ok {k:ItK} {t:PySem.Expr} (h:tgFits k t = true):kTg k t:=fun e=>by
  subst e
  obtain ⟨x,hx⟩:=Option.isSome_iff_exists.mp (show (tupE t).isSome = true from h)
  exact ⟨_,_,_,tupE_some hx⟩
theorem comp_parts {n:Nat} {names:List (Str × NameKind)} {sc:Scope} {elt:PySem.Expr} {gens:List Comprehension} {scope:Scope} {p:Pos} {i:Mine.E} (h:compE cx names sc (n + 1) (.ListComp elt gens scope p) = some i) :
    ∃ (c:Comprehension) (ki:ItK × Mine.E) (is:List Nat) (ics:List Mine.E) (ie:Mine.E),gens = [⟨c.target,c.iter,c.ifs,0⟩] ∧ compOk scope names = true ∧ slotsOk (compNames scope) (relS scope) = true ∧ capOk (capOf names 0 (compNames scope)) (compNames scope) names = true ∧ foldedPlain c.iter = true ∧
      compI cx names sc n c.iter = some ki ∧ tgFits ki.1 c.target = true ∧ tgOf true (compNames scope) c.target = some is ∧ compTs cx (compNames scope) (relS scope) n c.ifs = some ics ∧ compE cx (compNames scope) (relS scope) n elt = some ie ∧
      i = .comp (compNames scope).length (capOf names 0 (compNames scope)) is ki.1 ki.2 ics ie:=by
  obtain ⟨c,h1,h⟩:=bind_some (show (oneGen gens).bind _ = some i from h)
  obtain ⟨hg,h⟩:=if_some h
  obtain ⟨ki,h2,h⟩:=bind_some h
  obtain ⟨hf,h⟩:=if_some h
  obtain ⟨is,h3,h⟩:=bind_some h
  obtain ⟨ics,h4,h⟩:=bind_some h
  obtain ⟨ie,h5,h⟩:=map_some' h
  simp only [compGood,Bool.and_eq_true] at hg
  exact ⟨c,ki,is,ics,ie,oneGen_ok h1,hg.1.1.1,hg.1.1.2,hg.1.2,hg.2,h2,hf,h3,h4,h5,h.symm⟩
theorem callE_ok (X:CxOk cx G) (GK:GG G g) (HC:CallOk G C r) (HN:CallOk G N rn) (hrn:r = rn + 1 ∨ ∀ f vs hp Q X,¬ N f vs hp Q X) {names:List (Str × NameKind)} {sc:Scope} {env:Env} (O:EnvOk env names) (hs:env.scope = sc) {x:Str} {p pos:Pos} {es:List PySem.Expr} {is:List Mine.E} {h:Head} {i:Mine.E}
    (q:HdR cx sc x h) (l:SndL G g C N env names r es is) (e:headE h is = some i):Snd G g C N env names r (.Call (.Name x p) es [] pos) i:=by
  obtain ⟨e1,e2,_⟩:=l.all
  cases q with
  | fn a b c=>cases e; exact snd_call GK O HC (isGl_ok hs a).1 (isGl_ok hs a).2 (X.fn _ _ c) (by rw [X.K]; exact b) e2 e1
  | cls a b c=>cases e; exact snd_new GK O HN hrn (isGl_ok hs a).1 (isGl_ok hs a).2 (X.cls _ _ c) (by rw [X.K]; exact b) e2 e1
  | bi a b c=>cases e; subst c; exact snd_bi GK O (isGl_ok hs a).1 (by rw [X.K]; exact b) e2 e1
  | isi a b c=>cases e
theorem isiE_ok (X:CxOk cx G) (GK:GG G g) {names:List (Str × NameKind)} {sc:Scope} {env:Env} (O:EnvOk env names) (hs:env.scope = sc) {x:Str} {p pos:Pos} {a t:PySem.Expr} {i:Mine.E} {ty:Ty}
    (q:HdR cx sc x .isi) (hst:notStar a = true) (h1:Snd G g C N env names r a i) (e:isiOf cx sc t = some ty):Snd G g C N env names r (.Call (.Name x p) [a,t] [] pos) (.isi i ty):=by
  cases q with
  | isi g1 g2 g3=>
    subst g3
    obtain ⟨y,e1,e⟩:=bind_some e
    obtain ⟨hy,e⟩:=if_some e
    rw [nmE_some e1]
    simp only [Bool.and_eq_true,beq_iff_eq] at hy
    obtain ⟨T,t1,et⟩:=tyOf_ok e
    rw [et] at hy ⊢
    exact snd_isi GK O t1 (isGl_ok hs g1).1 (by rw [X.K]; exact g2) (isGl_ok hs hy.1).1 (by rw [X.K]; exact hy.2) hst h1
theorem compE_ok (X:CxOk cx G) (GK:GG G g) (HC:CallOk G C r) (HN:CallOk G N rn) (hrn:r = rn + 1 ∨ ∀ f vs hp Q X,¬ N f vs hp Q X) {n:Nat} (ih:∀ names sc env,EnvOk env names → env.scope = sc → AllE cx G g C N r names sc env n)
    {names:List (Str × NameKind)} {sc:Scope} {env:Env} (O:EnvOk env names) (hs:env.scope = sc) (e:PySem.Expr) (i:Mine.E) (h:compE cx names sc (n + 1) e = some i):Snd G g C N env names r e i:=by
  have I:=ih names sc env O hs
  cases e with
  | Constant c k p=>exact ct_snd X h
  | Name x p=>exact nm_snd X GK O hs h
  | BinOp a op b p=>
    change (match powOf a op b with | some i=>some i | none=>(opB op).bind fun o=>o2 (.bin o) (compE cx names sc n a) (compE cx names sc n b)) = some i at h
    cases hp:powOf a op b with
    | some j=>rw [hp] at h; cases h; exact pow_snd hp
    | none=>
      rw [hp] at h
      obtain ⟨o,h1,h⟩:=bind_some h
      obtain ⟨j,h2,h⟩:=bind_some h
      obtain ⟨k,h3,h⟩:=map_some' h
      subst h
      exact snd_bin GK.ok h1 (I.e _ _ h2) (I.e _ _ h3)
  | UnaryOp op a p=>
    change unOf op a (compE cx names sc n a) = some i at h
    cases op with
    | Not=>obtain ⟨j,h1,h⟩:=map_some' (show (compE cx names sc n a).map .not_ = some i from h); subst h; exact snd_not (I.e _ _ h1)
    | USub=>
      obtain ⟨j,h1,h⟩:=map_some' (show (constI a).map (fun a=>Mine.E.int (-a)) = some i from h)
      subst h
      obtain ⟨_,_,rfl⟩:=constI_some h1
      exact snd_neg
    | _=>cases h
  | Compare a ops cs p=>
    obtain ⟨hm,h⟩:=if_some (show (if lastMarks ops cs = false then _ else none) = some i from h)
    obtain ⟨j,h1,h⟩:=bind_some h
    obtain ⟨js,h2,h⟩:=bind_some h
    exact (cmp_snd GK.ok hm (I.e _ _ h1) (I.es _ _ h2) h).1
  | BoolOp op es p=>
    obtain ⟨is,h1,h⟩:=bind_some (show (compEs cx names sc n es).bind (boolOf op) = some i from h)
    exact bool_snd (I.es _ _ h1) h
  | Tuple es k p=>
    obtain ⟨hl,h⟩:=if_some (show (if es.length ≤ lim then (compEs cx names sc n es).map .tup else none) = some i from h)
    obtain ⟨is,h1,h⟩:=map_some' h
    subst h
    exact snd_tup hl (I.es _ _ h1).all.1
  | List es p=>
    obtain ⟨hl,h⟩:=if_some (show (if es.length ≤ lim then (compEs cx names sc n es).map .lst else none) = some i from h)
    obtain ⟨is,h1,h⟩:=map_some' h
    subst h
    exact snd_lst hl (I.es _ _ h1).all.1
  | Subscript a b p=>
    change (match slcParts b with | some p=>o3 .slc (compE cx names sc n a) (compO cx names sc n p.1) (compO cx names sc n p.2) | none=>if notSlice b = true then o2 .idx (compE cx names sc n a) (compE cx names sc n b) else none) = some i at h
    cases hp:slcParts b with
    | some q=>
      rw [hp] at h
      obtain ⟨j,h1,h⟩:=bind_some h
      obtain ⟨k,h2,h⟩:=bind_some h
      obtain ⟨l,h3,h⟩:=map_some' h
      subst h
      obtain ⟨z,rfl⟩:=slc_ok hp
      exact snd_slc (I.e _ _ h1) (I.o _ _ h2) (I.o _ _ h3)
    | none=>
      rw [hp] at h
      obtain ⟨hn,h⟩:=if_some h
      obtain ⟨j,h1,h⟩:=bind_some h
      obtain ⟨k,h2,h⟩:=map_some' h
      subst h
      exact snd_idx GK.ok hn (I.e _ _ h1) (I.e _ _ h2)
  | Attribute a x p=>
    obtain ⟨hc,h⟩:=if_some (show (if notCall a = true then _ else none) = some i from h)
    obtain ⟨j,h1,h⟩:=bind_some h
    obtain ⟨f,h2,h⟩:=map_some' h
    subst h
    exact snd_attr GK (by rw [X.ws]; exact idxStr_ok h2) hc (I.e _ _ h1)
  | Call f es kws pos=>
    cases hk:callK f kws with
    | no=>
      change (match callK f kws with | .name x=>_ | .meth a x ap=>_ | .no=>none) = some i at h
      rw [hk] at h; cases h
    | name x=>
      obtain ⟨⟨p,rfl⟩,rfl⟩:=callK_name hk
      change (match hdOf cx sc x with | some .isi=>_ | some h=>(compEs cx names sc n es).bind (headE h) | none=>none) = some i at h
      cases hh:hdOf cx sc x with
      | none=>rw [hh] at h; cases h
      | some hd=>
        rw [hh] at h
        have hr:=hd_ok hh
        cases hd with
        | isi=>
          obtain ⟨q,h1,h⟩:=bind_some h
          obtain ⟨hst,h⟩:=if_some h
          obtain ⟨j,h2,h⟩:=bind_some h
          obtain ⟨ty,h3,h⟩:=map_some' h
          subst h
          have:es = [q.1,q.2]:=by
            unfold isiArgs at h1
            split at h1
            · cases h1; rfl
            · cases h1
          subst this
          exact isiE_ok X GK O hs hr hst (I.e _ _ h2) h3
        | fn f=>
          obtain ⟨is,h1,h⟩:=bind_some h
          exact callE_ok X GK HC HN hrn O hs hr (I.es _ _ h1) h
        | cls c=>
          obtain ⟨is,h1,h⟩:=bind_some h
          exact callE_ok X GK HC HN hrn O hs hr (I.es _ _ h1) h
        | bi b=>
          obtain ⟨is,h1,h⟩:=bind_some h
          exact callE_ok X GK HC HN hrn O hs hr (I.es _ _ h1) h
    | meth a x ap=>
      obtain ⟨rfl,rfl⟩:=callK_meth hk
      obtain ⟨hc,h⟩:=if_some (show (if notCall a = true ∧ es.length < 30 ∧ (ap.endLine == pos.line) = true then _ else none) = some i from h)
      obtain ⟨j,h1,h⟩:=bind_some h
      obtain ⟨m,h2,h⟩:=bind_some h
      obtain ⟨is,h3,h⟩:=map_some' h
      subst h
      obtain ⟨e1,e2,e3⟩:=(I.es _ _ h3).all
      exact snd_meth GK HC (by rw [X.ws]; exact idxStr_ok h2) hc.1 e2 hc.2.1 hc.2.2 (I.e _ _ h1) e1 e3
  | ListComp elt gens scope p=>
    obtain ⟨c,ki,is,ics,ie,rfl,c1,c2,c3,c4,h1,hf,h2,h3,h4,rfl⟩:=comp_parts h
    exact snd_comp O c1 c2 c3 rfl c4 (fits_ok hf) (I.it _ _ h1) (fun cenv CO=>tg_ok h2 CO) (fun cenv CO cs=>(ih _ _ cenv CO cs).ts _ _ h3) (fun cenv CO cs=>(ih _ _ cenv CO cs).e _ _ h4)
  | _=>cases h
theorem nameCall_ok {sc:Scope} {nm:Str} {e a:PySem.Expr} (h:nameCall cx sc nm e = some a):∃ p pos,e = .Call (.Name nm p) [a] [] pos ∧ isGl sc nm = true ∧ nsIn cx.K mainGlobals nm = some none:=by
  obtain ⟨c,h1,h⟩:=bind_some h
  obtain ⟨b,h2,h⟩:=bind_some h
  rw [callA_some h1,single_some h2]
  cases hk:callK c.1 c.2.2.1 with
  | name x=>
    rw [hk] at h
    obtain ⟨hc,h⟩:=if_some h
    cases h
    simp only [isName',Bool.and_eq_true,beq_iff_eq] at hc
    obtain ⟨⟨p,e1⟩,e2⟩:=callK_name hk
    obtain ⟨⟨rfl,h2⟩,h3⟩:=hc
    rw [e1,e2]
    exact ⟨p,_,rfl,h2,h3⟩
  | _=>rw [hk] at h; cases h
theorem range_ok {sc:Scope} {nm:Str} {e a:PySem.Expr} (h:argOf cx sc nm e = some a):∃ p pos,e = .Call (.Name nm p) [a] [] pos ∧ isGl sc nm = true ∧ nsIn cx.K mainGlobals nm = some none ∧ notStar a = true:=by
  obtain ⟨b,h1,h⟩:=bind_some h
  obtain ⟨h2,h⟩:=if_some h
  cases h
  obtain ⟨p,pos,e1,e2,e3⟩:=nameCall_ok h1
  exact ⟨p,pos,e1,e2,e3,h2⟩
theorem compAll_ok (X:CxOk cx G) (GK:GG G g) (HC:CallOk G C r) (HN:CallOk G N rn) (hrn:r = rn + 1 ∨ ∀ f vs hp Q X,¬ N f vs hp Q X):∀ (n:Nat) (names:List (Str × NameKind)) (sc:Scope) (env:Env),EnvOk env names → env.scope = sc → AllE cx G g C N r names sc env n:=by
  intro n
  induction n with
  | zero=>intro names sc env O hs; exact ⟨fun zz zz h=>(by cases h),fun zz zz h=>(by cases h),fun zz zz h=>(by cases h),fun zz zz h=>(by cases h),fun zz zz h=>(by cases h),fun zz zz h=>(by cases h)⟩
  | succ n ih=>
    intro names sc env O hs
    have I:=ih names sc env O hs
    refine ⟨fun e i h=>compE_ok X GK HC HN hrn ih O hs e i h,fun e i h=>?_,fun es is h=>?_,fun es is h=>?_,fun e k h=>?_,fun e i h=>?_⟩
    · cases e with
      | none=>cases h; rfl
      | some e=>exact I.e _ _ h
    · cases es with
      | nil=>cases h; exact .nil
      | cons e es=>
        obtain ⟨hst,h⟩:=if_some (show (if notStar e = true then _ else none) = some is from h)
        obtain ⟨i,h1,h⟩:=bind_some h
        obtain ⟨js,h2,h⟩:=map_some' h
        subst h
        exact .cons hst (I.e _ _ h1) (I.es _ _ h2)
    · cases es with
      | nil=>cases h; exact .nil
      | cons e es=>
        obtain ⟨i,h1,h⟩:=bind_some (show (compT cx names sc n e).bind _ = some is from h)
        obtain ⟨js,h2,h⟩:=map_some' h
        subst h
        exact .cons (I.t _ _ h1) (I.ts _ _ h2)
    · change (match rangeArg cx sc e with | some a => (compE cx names sc n a).map fun i => (ItK.range, i) | none => match argOf cx sc "reversed" e with | some a => (compE cx names sc n a).map fun i => (ItK.rev, i) | none => (compE cx names sc n e).map fun i => (ItK.seq, i)) = some k at h
      cases hr:rangeArg cx sc e with
      | some a=>
        rw [hr] at h
        obtain ⟨i,h1,h⟩:=map_some' h
        subst h
        obtain ⟨p,pos,rfl,r1,r2,r3⟩:=range_ok hr
        exact sndIt_range GK O (isGl_ok hs r1).1 (by rw [X.K]; exact r2) r3 (I.e _ _ h1)
      | none=>
        rw [hr] at h
        cases hb : argOf cx sc "reversed" e with
        | some a=>
          rw [hb] at h
          obtain ⟨i,h1,h⟩:=map_some' h
          subst h
          obtain ⟨p,pos,rfl,r1,r2,r3⟩:=range_ok hb
          exact sndIt_back GK O (isGl_ok hs r1).1 (by rw [X.K]; exact r2) r3 (I.e _ _ h1)
        | none=>
          rw [hb] at h
          obtain ⟨i,h1,h⟩:=map_some' h
          subst h
          exact sndIt_seq (I.e _ _ h1)
    · cases e with
      | UnaryOp op a p=>
        obtain ⟨ho,h⟩:=if_some (show (if op = .Not then (compT cx names sc n a).map .not_ else none) = some i from h)
        obtain ⟨j,h1,h⟩:=map_some' h
        subst h; subst ho
        exact sndT_not (I.t _ _ h1)
      | Compare a ops cs p=>
        obtain ⟨hm,h⟩:=if_some (show (if lastMarks ops cs = false then _ else none) = some i from h)
        obtain ⟨j,h1,h⟩:=bind_some h
        obtain ⟨js,h2,h⟩:=bind_some h
        exact (cmp_snd GK.ok hm (I.e _ _ h1) (I.es _ _ h2) h).2
      | BoolOp op es p=>
        obtain ⟨is,h1,h⟩:=bind_some (show (compTs cx names sc n es).bind (boolOf op) = some i from h)
        exact boolT_snd (I.ts _ _ h1) h
      | Call f a k p=>exact sndT_plain (fun zz=>rfl) (I.e _ _ h)
      | Name x p=>exact sndT_plain (fun zz=>rfl) (I.e _ _ h)
      | Constant c k p=>exact sndT_plain (fun zz=>rfl) (I.e _ _ h)
      | Attribute a x p=>exact sndT_plain (fun zz=>rfl) (I.e _ _ h)
      | Subscript a x p=>exact sndT_plain (fun zz=>rfl) (I.e _ _ h)
      | _=>cases h
end
end Mine
end
noncomputable section
namespace Mine
open PySem PySem.W PyProof.Rows
section
variable {cx:Cx} {G:Glb} {g:Genv} {C N:Oracle} {r rn:Nat}
theorem comp_asg {n:Nat} (ih:∀ names sc env,EnvOk env names → env.scope = sc → AllE cx G g C N r names sc env n) {names:List (Str × NameKind)} {sc:Scope} {env:Env} (O:EnvOk env names) (hs:env.scope = sc)
    {elt:PySem.Expr} {gens:List Comprehension} {scope:Scope} {pos p spos:Pos} {x:Str} {k:NameKind} {j:Nat} {i:Mine.E} (hx:names[j]? = some (x,k)) (hk:k = .local ∨ k = .cell)
    (h:compE cx names sc (n + 1) (.ListComp elt gens scope pos) = some i):SndS G g C N env names r (.Assign [.Name x p] (.ListComp elt gens scope pos) spos) (.asg (.loc j) i):=by
  have I:=ih names sc env O hs
  obtain ⟨c,ki,is,ics,ie,rfl,c1,c2,c3,c4,h1,hf,h2,h3,h4,rfl⟩:=comp_parts h
  exact sndS_asgC O hx hk c1 c2 c3 rfl c4 (fits_ok hf) (I.it _ _ h1) (fun cenv CO=>tg_ok h2 CO) (fun cenv CO cs=>(ih _ _ cenv CO cs).ts _ _ h3) (fun cenv CO cs=>(ih _ _ cenv CO cs).e _ _ h4)
set_option tactic.hygienic true in
theorem raise_ok {sc:Scope} {e c:Option PySem.Expr} {i:Mine.S} (h:raiseOf cx sc e c = some i):RaiseR cx sc e c i:=by
  obtain ⟨x,_,rfl⟩:=map_some' h
  exact x.2
structure AllS (cx:Cx) (G:Glb) (g:Genv) (C N:Oracle) (r:Nat) (names:List (Str × NameKind)) (sc:Scope) (env:Env) (n:Nat):Prop where
  s:∀ st i,compS cx names sc n st = some i → SndS G g C N env names r st i
  ss:∀ sts i,compSs cx names sc n sts = some i → SndSs G g C N env names r sts i
theorem oneTg_ok {ts:List PySem.Expr} {t:PySem.Expr} (h:oneTg ts = some t):ts = [t]:=by
  unfold oneTg at h
  split at h
  · cases h; rfl
  · cases h
theorem asg_ok (X:CxOk cx G) (GK:GG G g) (HC:CallOk G C r) (HN:CallOk G N rn) (hrn:r = rn + 1 ∨ ∀ f vs hp Q X,¬ N f vs hp Q X) {names:List (Str × NameKind)} {sc:Scope} {env:Env} (O:EnvOk env names) (hs:env.scope = sc)
    {n:Nat} {x:Str} {p pos:Pos} {e:PySem.Expr} {i:Mine.S} (h:asgOf names e x (compE cx names sc n e) = some i):SndS G g C N env names r (.Assign [.Name x p] e pos) i:=by
  unfold asgOf at h
  cases hx:idxName x names with
  | none=>rw [hx] at h; cases h
  | some q=>
    rw [hx] at h
    obtain ⟨hc,h⟩:=if_some h
    obtain ⟨j,h1,h⟩:=map_some' h
    subst h
    simp only [Bool.and_eq_true,Bool.or_eq_true,beq_iff_eq] at hc
    have hx':=idxName_ok (k:=q.2) (i:=q.1) (by rw [hx])
    obtain ⟨hk,hc⟩:=hc
    cases hn:notComp e with
    | true=>exact sndS_asgL O hx' hk hn ((compAll_ok X GK HC HN hrn n names sc env O hs).e _ _ h1)
    | false=>
      rw [hn] at hc
      have hc:isComp e = true:=by simpa using hc
      obtain ⟨⟨⟨a,b,c,d⟩,e⟩,_⟩:=Option.isSome_iff_exists.mp (show (lcV e).isSome = true from hc)
      subst e
      cases n with
      | zero=>cases h1
      | succ n=>exact comp_asg (compAll_ok X GK HC HN hrn n) O hs hx' hk h1
inductive CS (cx:Cx) (names:List (Str × NameKind)) (sc:Scope) (n:Nat):Stmt → Mine.S → Prop
  | pass {p:Pos}:CS cx names sc n (.Pass p) .skip
  | expr {e:PySem.Expr} {p:Pos} {j:Mine.E}:notComp e = true ∧ (callV e).isSome = true → compE cx names sc n e = some j → CS cx names sc n (.Expr e p) (.expr j)
  | ret0 {p:Pos}:CS cx names sc n (.Return none p) (.ret .none)
  | ret {e:PySem.Expr} {p:Pos} {j:Mine.E}:compE cx names sc n e = some j → CS cx names sc n (.Return (some e) p) (.ret j)
  | if_ {c:PySem.Expr} {a b:List Stmt} {p:Pos} {j:Mine.E} {k l:Mine.S}:compT cx names sc n c = some j → compSs cx names sc n a = some k → compSs cx names sc n b = some l → CS cx names sc n (.If c a b p) (.if_ j k l)
  | raise {a b:Option PySem.Expr} {p:Pos} {i:Mine.S}:RaiseR cx sc a b i → CS cx names sc n (.Raise a b p) i
  | while_ {c:PySem.Expr} {b:List Stmt} {p:Pos} {j:Mine.E} {k:Mine.S}:compT cx names sc n c = some j → compSs cx names sc n b = some k → CS cx names sc n (.While c b [] p) (.while_ j k)
  | for_ {t iter:PySem.Expr} {b:List Stmt} {p:Pos} {is:List Nat} {ki:ItK × Mine.E} {j:Mine.S}:foldedPlain iter = true → tgOf false names t = some is → compI cx names sc n iter = some ki → tgFits ki.1 t = true → compSs cx names sc n b = some j → CS cx names sc n (.For t iter b [] p) (.for_ is ki.1 ki.2 j)
  | asgN {x:Str} {q p:Pos} {e:PySem.Expr} {j:Nat} {k:Mine.E}:asgOf names e x (compE cx names sc n e) = some (.asg (.loc j) k) → CS cx names sc n (.Assign [.Name x q] e p) (.asg (.loc j) k)
  | asgA {o e:PySem.Expr} {x:Str} {q p:Pos} {j k:Mine.E} {f:Nat}:notComp e = true → compE cx names sc n e = some j → compE cx names sc n o = some k → idxStr x cx.ws = some f → CS cx names sc n (.Assign [.Attribute o x q] e p) (.asg (.attr k f) j)
  | asgI {o ix e:PySem.Expr} {q p:Pos} {j k l:Mine.E}:notComp e = true → compE cx names sc n e = some j → compE cx names sc n o = some k → compE cx names sc n ix = some l → CS cx names sc n (.Assign [.Subscript o ix q] e p) (.asg (.idx k l) j)
  | asgU {es:List PySem.Expr} {e:PySem.Expr} {k:Nat} {q p:Pos} {is:List Nat} {j:Mine.E}:notComp e = true ∧ notTuple e = true → tgsOf false names es = some is → 2 ≤ is.length → compE cx names sc n e = some j → CS cx names sc n (.Assign [.Tuple es k q] e p) (.asg (.unp is) j)
theorem cs_inv {names:List (Str × NameKind)} {sc:Scope} {n:Nat} {st:Stmt} {i:Mine.S} (h:compS cx names sc (n + 1) st = some i):CS cx names sc n st i:=by
  cases st with
  | Pass p=>cases h; exact .pass
  | Expr e p=>
    obtain ⟨hc,h⟩:=if_some (show (if notComp e = true ∧ (callV e).isSome = true then (compE cx names sc n e).map .expr else none) = some i from h)
    obtain ⟨j,h1,h⟩:=map_some' h
    subst h
    exact .expr hc h1
  | Return e p=>
    cases e with
    | none=>cases h; exact .ret0
    | some e=>
      obtain ⟨j,h1,h⟩:=map_some' (show (compE cx names sc n e).map .ret = some i from h)
      subst h
      exact .ret h1
  | If c a b p=>
    obtain ⟨j,h1,h⟩:=bind_some (show (compT cx names sc n c).bind _ = some i from h)
    obtain ⟨k,h2,h⟩:=bind_some h
    obtain ⟨l,h3,h⟩:=map_some' h
    subst h
    exact .if_ h1 h2 h3
  | Raise a b p=>exact .raise (raise_ok h)
  | While c b e p=>
    obtain ⟨hc,h⟩:=if_some (show (if e.isEmpty = true then _ else none) = some i from h)
    obtain ⟨j,h1,h⟩:=bind_some h
    obtain ⟨k,h2,h⟩:=map_some' h
    subst h
    rw [List.isEmpty_iff.mp hc]
    exact .while_ h1 h2
  | For t iter b e p=>
    obtain ⟨hc,h⟩:=if_some (show (if (e.isEmpty && foldedPlain iter) = true then _ else none) = some i from h)
    obtain ⟨is,h1,h⟩:=bind_some h
    obtain ⟨ki,h2,h⟩:=bind_some h
    obtain ⟨hf,h⟩:=if_some h
    obtain ⟨j,h3,h⟩:=map_some' h
    subst h
    rw [Bool.and_eq_true] at hc
    rw [List.isEmpty_iff.mp hc.1]
    exact .for_ hc.2 h1 h2 hf h3
  | Assign ts e p=>
    cases ht:oneTg ts with
    | none=>
      change (match oneTg ts with | none=>none | some t=>_) = some i at h
      rw [ht] at h; cases h
    | some t=>
      rw [oneTg_ok ht] at h ⊢
      cases t with
      | Name x q=>
        have h:asgOf names e x (compE cx names sc n e) = some i:=h
        have g:=h
        unfold asgOf at h
        cases hx':idxName x names with
        | none=>rw [hx'] at h; cases h
        | some q=>
          rw [hx'] at h
          obtain ⟨_,h⟩:=if_some h
          obtain ⟨_,_,h⟩:=map_some' h
          subst h
          exact .asgN g
      | Attribute o x q=>
        obtain ⟨hc,h⟩:=if_some (show (if notComp e = true then _ else none) = some i from h)
        obtain ⟨j,h1,h⟩:=bind_some h
        obtain ⟨k,h2,h⟩:=bind_some h
        obtain ⟨f,h3,h⟩:=map_some' h
        subst h
        exact .asgA hc h1 h2 h3
      | Subscript o ix q=>
        obtain ⟨hc,h⟩:=if_some (show (if notComp e = true then _ else none) = some i from h)
        obtain ⟨j,h1,h⟩:=bind_some h
        obtain ⟨k,h2,h⟩:=bind_some h
        obtain ⟨l,h3,h⟩:=map_some' h
        subst h
        exact .asgI hc h1 h2 h3
      | Tuple es k q=>
        obtain ⟨hc,h⟩:=if_some (show (if notComp e = true ∧ notTuple e = true then _ else none) = some i from h)
        obtain ⟨is,h1,h⟩:=bind_some h
        obtain ⟨hl,h⟩:=if_some h
        obtain ⟨j,h2,h⟩:=map_some' h
        subst h
        exact .asgU hc h1 hl h2
      | _=>cases h
  | _=>cases h
theorem compS_ok (X:CxOk cx G) (GK:GG G g) (HC:CallOk G C r) (HN:CallOk G N rn) (hrn:r = rn + 1 ∨ ∀ f vs hp Q X,¬ N f vs hp Q X) {names:List (Str × NameKind)} {sc:Scope} {env:Env} (O:EnvOk env names) (hs:env.scope = sc) :
    ∀ (n:Nat),AllS cx G g C N r names sc env n:=by
  have AE:=compAll_ok X GK HC HN hrn
  intro n
  induction n with
  | zero=>exact ⟨fun zz zz h=>(by cases h),fun zz zz h=>(by cases h)⟩
  | succ n ih=>
    have I:=AE n names sc env O hs
    refine ⟨fun st i h=>?_,fun sts i h=>?_⟩
    · cases cs_inv h with
      | pass=>exact sndS_pass _
      | expr hc h1=>exact sndS_expr O hc.1 (I.e _ _ h1)
      | ret0=>exact sndS_ret0
      | ret h1=>exact sndS_ret (I.e _ _ h1)
      | if_ h1 h2 h3=>exact sndS_if (I.t _ _ h1) (ih.ss _ _ h2) (ih.ss _ _ h3)
      | raise h1=>cases h1; exact sndS_raise
      | while_ h1 h2=>exact sndS_while (I.t _ _ h1) (ih.ss _ _ h2)
      | for_ hc h1 h2 hf h3=>exact sndS_for hc (fits_ok hf) (I.it _ _ h2) (tg_ok h1 O) (ih.ss _ _ h3)
      | asgN h1=>exact asg_ok X GK HC HN hrn O hs h1
      | asgA hc h1 h2 h3=>exact sndS_asgA GK (by rw [X.ws]; exact idxStr_ok h3) hc (I.e _ _ h1) (I.e _ _ h2)
      | asgI hc h1 h2 h3=>exact sndS_asgI GK.ok hc (I.e _ _ h1) (I.e _ _ h2) (I.e _ _ h3)
      | asgU hc h1 hl h2=>exact sndS_asgU O (tgs_ok h1) hl hc.1 hc.2 (I.e _ _ h2)
    · cases sts with
      | nil=>cases h; exact sndSs_nil
      | cons st sts=>
        obtain ⟨j,h1,h⟩:=bind_some (show (compS cx names sc n st).bind _ = some i from h)
        obtain ⟨k,h2,h⟩:=map_some' h
        subst h
        exact sndSs_cons (ih.s _ _ h1) (ih.ss _ _ h2)
inductive CompF (cx:Cx) (a:Addr) (fn:Fn):Prop
  | mk {F:FnP} {ps:List Str} {b:Mine.S}:FnR cx.K a F → plainPs F.params = some ps → slotsOk (slotsOf ps F.scope) F.scope = true → paramsOk ps (slotsOf ps F.scope) F.scope = true → compSs cx (slotsOf ps F.scope) F.scope 200 F.body = some b → fn = ⟨ps.length,(slotsOf ps F.scope).length,b⟩ → CompF cx a fn
set_option tactic.hygienic true in
theorem comp_fn {a:Addr} {fn:Fn} (h:compFn cx a = some fn):CompF cx a fn:=by
  obtain ⟨F,_,h⟩:=bind_some h
  obtain ⟨ps,h2,h⟩:=bind_some h
  obtain ⟨hc,h⟩:=if_some h
  obtain ⟨b,h3,h⟩:=map_some' h
  rw [Bool.and_eq_true] at hc
  exact .mk F.2 h2 hc.1 hc.2 h3 h.symm
set_option tactic.hygienic true in
theorem step_ok (X:CxOk cx G) (GK:GG G g) (hfn:∀ f fn,g.fn f = some fn → ∃ a,cx.fnL[f]? = some a ∧ compFn cx a = some fn) (HC:CallOk G C r) (HN:CallOk G N rn) (hrn:r = rn + 1 ∨ ∀ f vs hp Q X,¬ N f vs hp Q X):CallOk G (stepC g C N) (r + 1):=by
  intro f a vs hp Q X' A s am vals hf hC rm sz hr sm rv
  cases hg:g.fn f with
  | none=>unfold stepC at hC; rw [hg] at hC; exact hC.elim
  | some fn=>
    obtain ⟨a',h1,h2⟩:=hfn f fn hg
    have:=X.fn _ _ h1
    rw [hf] at this; cases this
    obtain ⟨⟨hl,k3⟩,hps,k1,k2,q,e⟩:=comp_fn h2
    subst e
    exact call_entry GK (f:=f) (by rw [X.K]; exact hl) (by rw [X.K]; exact k3) hps k1 k2 hg rfl rfl (fun env O hsc=>(compS_ok X GK HC HN hrn O hsc 200).ss _ _ q) hC rm sz hr sm rv
theorem bot_ok {r:Nat}:CallOk G bot r:=fun zz zz zz zz zz zz zz zz zz zz zz h zz=>h.elim
theorem call_ok (X:CxOk cx G) (GK:GG G g) (hfn:∀ f fn,g.fn f = some fn → ∃ a,cx.fnL[f]? = some a ∧ compFn cx a = some fn):∀ r,CallOk G (callWp g r) r
  | 0=>bot_ok
  | 1=>step_ok X GK hfn (r:=0) bot_ok (rn:=0) bot_ok (.inr fun zz zz zz zz zz h=>h)
  | r + 2=>step_ok X GK hfn (r:=r + 1) (call_ok X GK hfn (r + 1)) (rn:=r) (call_ok X GK hfn r) (.inl rfl)
end
end Mine
end
noncomputable section
namespace Mine
open PySem PySem.W PyProof.Rows
theorem mem_of_lookupN {α:Type}:∀ {l:List (Nat × α)} {n:Nat} {c:α},l.lookup n = some c → (n,c) ∈ l
  | (k,v) :: r,n,c,h=>by
    rw [List.lookup_cons] at h
    cases hb:n == k with
    | true=>rw [hb] at h; cases h; rw [beq_iff_eq.mp hb]; exact List.mem_cons_self
    | false=>rw [hb] at h; exact List.mem_cons_of_mem _ (mem_of_lookupN h)
section
variable {L:Law} {prog:Program} {w:World} {K:Frag} {base:Heap} {gens:Array GenState} {os:OsState}
noncomputable def Law.G (L:Law) (prog:Program) (w:World) (K:Frag) (base:Heap) (gens:Array GenState) (os:OsState):Glb:=
  { prog,w,K,base,ws:=L.ws,cls:=fun c=>L.clsL[c]?,fnA:=fun f=>L.fnL[f]?,at_:=L.atB,gens,os }
set_option tactic.hygienic true in
theorem gg_of (h : ggOk L K = true) (x : K.In base) (nl : base.NoLimit) (ns : base.NoSeer) (tr : prog.given.tree = none) (hg : ∃ mg, base.Ns mainGlobals mg) (hb : ∃ mb, base.Ns builtinsNs mb ∧ ∀ x : Str, x ≠ "__name__" → mb x = bootBuiltins x) : GG (L.G prog w K base gens os) L.g := by
  simp only [ggOk,Bool.and_eq_true,List.all_eq_true,decide_eq_true_eq,beq_iff_eq] at h
  obtain ⟨⟨⟨⟨⟨⟨h1,h2⟩,h3⟩,h4⟩,h5⟩,h6⟩,h7⟩:=h
  have cl:∀ (c:Nat) (Ca:Addr),L.clsL[c]? = some Ca → clsOk K Ca = true ∧ (∀ l,L.ats[c]? = some l → l.all (attrOk L K Ca) = true) ∧ (∀ l,L.meths[c]? = some l → l.all (methOk L K c Ca) = true) ∧ (∀ f,L.inits[c]? = some (some f) → initOk L K Ca f = true):=fun c Ca e=>by
    have q:=h2 c (List.mem_range.mpr (by obtain ⟨z,_⟩:=List.getElem?_eq_some_iff.mp e; exact z))
    unfold clsAll at q
    rw [e] at q
    simp only [Bool.and_eq_true] at q
    obtain ⟨⟨⟨q1,q2⟩,q3⟩,q4⟩:=q
    refine ⟨q1,fun l el=>?_,fun l el=>?_,fun f ef=>?_⟩
    · rw [el] at q2; exact q2
    · rw [el] at q3; exact q3
    · rw [ef] at q4; exact q4
  refine ⟨⟨x,h4,h5,nl,ns,tr⟩,rfl,hg,hb,?_,?_,?_,?_,?_,h6,h7⟩
  · intro f a e
    exact h1 a (List.mem_of_getElem? e)
  · intro c Ca e; exact (cl c Ca e).1
  · intro c Ca f y e ea ew
    have ea':L.atB c f = true:=ea
    unfold Law.atB at ea'
    split at ea'
    · rename_i l el
      have q:=List.all_eq_true.mp ((cl c Ca e).2.1 l el) f (List.contains_iff_mem.mp ea')
      unfold attrOk at q
      have ew':L.ws[f]? = some y:=ew
      rw [ew'] at q
      exact beq_iff_eq.mp q
    · cases ea'
  · intro c Ca m y fid e em ew
    have em':((L.meths[c]?).bind fun l=>l.lookup m) = some fid:=em
    cases el:L.meths[c]? with
    | none=>rw [el] at em'; cases em'
    | some l=>
      rw [el] at em'
      have q:=List.all_eq_true.mp ((cl c Ca e).2.2.1 l el) _ (mem_of_lookupN em')
      unfold methOk at q
      have ew':L.ws[m]? = some y:=ew
      rw [Bool.and_eq_true] at q
      obtain ⟨q1,q2⟩:=q
      dsimp only at q1 q2
      rw [ew'] at q2
      cases ef:L.fnL[fid]? with
      | none=>rw [ef] at q2; cases q2
      | some fa=>
        rw [ef] at q2
        simp only [Bool.and_eq_true] at q2
        exact ⟨(by simpa using q1:L.atB c m = false),fa,ef,beq_iff_eq.mp q2.1,q2.2⟩
  · intro c fid e
    have e':(L.inits[c]?).join = some fid:=e
    have e2:L.inits[c]? = some (some fid):=by
      cases q:L.inits[c]? with
      | none=>rw [q] at e'; cases e'
      | some o=>rw [q] at e'; have:o = some fid:=e'; rw [this]
    have cb:c < L.clsL.length:=by obtain ⟨z,_⟩:=List.getElem?_eq_some_iff.mp e2; exact Nat.lt_of_lt_of_le z h3
    have q:=(cl c _ (List.getElem?_eq_getElem cb)).2.2.2 fid e2
    unfold initOk at q
    cases ef:L.fnL[fid]? with
    | none=>rw [ef] at q; cases q
    | some fa=>
      rw [ef] at q
      simp only [Bool.and_eq_true] at q
      exact ⟨_,fa,List.getElem?_eq_getElem cb,ef,beq_iff_eq.mp q.1,q.2⟩
theorem fns_of (h:L.fnL.map (compFn (L.cx K)) = L.fns.map some):∀ f fn,L.g.fn f = some fn → ∃ a,(L.cx K).fnL[f]? = some a ∧ compFn (L.cx K) a = some fn:=fun f fn e=>by
  have e':L.fns[f]? = some fn:=e
  have q:=congrArg (·[f]?) h
  simp only [List.getElem?_map,e',Option.map_some] at q
  cases ea:L.fnL[f]? with
  | none=>rw [ea] at q; cases q
  | some a=>rw [ea] at q; exact ⟨a,ea,Option.some.inj q⟩
end
end Mine
end
noncomputable section
namespace Mine
open PySem PySem.W PyProof.Rows
theorem fragOf_in (h:Heap):∀ as:List Addr,(fragOf as h).In h
  | []=>fun a o e=>by cases e
  | b :: as=>fun a o e=>by
    unfold fragOf at e
    rw [List.filterMap_cons] at e
    cases q:h.get? b with
    | none=>rw [q] at e; exact fragOf_in h as a o e
    | some ob=>
      rw [q] at e
      dsimp only [Option.map_some] at e
      rw [List.lookup_cons] at e
      cases hb:a == b with
      | true=>rw [hb] at e; cases e; rw [beq_iff_eq.mp hb]; exact q
      | false=>rw [hb] at e; exact fragOf_in h as a o e
noncomputable def LawIn (L : Law) (fa : Addr) (h : Heap) : Prop := ∃ K : Frag, K.In h ∧ ggOk L K = true ∧ L.fnL.map (compFn (L.cx K)) = L.fns.map some ∧ nsIn K mainGlobals "law" = some (some (.ref fa))
noncomputable def obsOf (L : Law) (K : Frag) : Bool × List (Option Fn) × Option (Option Value) := (ggOk L K, L.fnL.map (compFn (L.cx K)), nsIn K mainGlobals "law")
noncomputable def valOf (L:Law) (fa:Addr):Bool × List (Option Fn) × Option (Option Value):=(true,L.fns.map some,some (some (.ref fa)))
theorem lawIn_of {L:Law} {as:List Addr} {fa:Addr} {h:Heap} (e:obsOf L (fragOf as h) = valOf L fa):LawIn L fa h:=
  ⟨fragOf as h,fragOf_in h as,congrArg (·.1) e,congrArg (·.2.1) e,congrArg (·.2.2) e⟩
noncomputable def lawHook (L:Law) (as:List Addr) (fa:Addr):Hook:=
  ⟨Bool × List (Option Fn) × Option (Option Value),fun s=>obsOf L (fragOf as s.heap),fun zz=>valOf L fa,fun zz h=>LawIn L fa h,fun zz zz e=>lawIn_of e,fun _ _ _ ⟨K,x,y⟩ k=>⟨K,Frag.In.keeps x k,y⟩⟩
end Mine
end
noncomputable section
namespace Mine
open PySem PySem.W PyProof.Rows
theorem topRunT_spec {tb:String → Option Builtin} {p:Program} {w:World} {n₀:Nat} {ann:Option Value}:∀ (n:Nat) (s:SharedT) (t:Thread) {r:SharedT},topRunT tb p w n₀ ann n s t = some r → topRun tb p w n₀ ann n s.abs t = some r.abs
  | 0=>fun s t r h=>by cases h
  | n + 1=>fun s t r h=>by
    unfold topRunT at h
    unfold topRun
    cases ht:through t with
    | true=>rw [ht] at h; cases h; rfl
    | false=>
      rw [ht] at h
      cases hk:stepOk n₀ ann t with
      | false=>rw [hk] at h; cases h
      | true=>
        rw [hk] at h
        cases hs:stepT (denote tb) p w s t with
        | none=>rw [hs] at h; cases h
        | some x=>rw [hs] at h; rw [stepT_spec (s':=x.1) (t':=x.2) hs]; exact topRunT_spec n x.1 x.2 h
theorem toBT_spec {life:Life}:∀ (l:List Obj) (t:BT) (n:Nat) {t':BT},toBT l t n = some t' → absHeap t' (n + l.length) life = ⟨⟨(absHeap t n life).objs.toList ++ l⟩,life⟩
  | []=>fun t n t' h=>by
    cases h
    rw [List.append_nil]; rfl
  | o :: l=>fun t n t' h=>by
    unfold toBT at h
    cases q:((t.ins n o).get n).isSome with
    | false=>rw [q] at h; cases h
    | true=>
      rw [q] at h
      have i:=toBT_spec (life:=life) l (t.ins n o) (n + 1) h
      rw [absHeap_ins q] at i
      rw [List.length_cons,show n + (l.length + 1) = n + 1 + l.length from Nat.add_right_comm n l.length 1,i]
      show Heap.mk ⟨((absHeap t n life).objs.push o).toList ++ l⟩ life = _
      rw [Array.toList_push,List.append_assoc]; rfl
theorem openT_ends {p:Program} {w:World} {N:Nat} {s₀:Shared} {s:SharedT} (h:openT p w N = some (s₀,s)) (g:goodT p s₀ s.abs = true):openEnds treeTable p w N = some s.abs:=by
  obtain ⟨x,h1,h⟩:=bind_some h
  obtain ⟨T,h2,h⟩:=bind_some h
  obtain ⟨y,h3,e⟩:=map_some' h
  cases e
  obtain ⟨g1,g2⟩:=Bool.and_eq_true_iff.mp g
  have e0:(⟨T,s₀.heap.objs.toList.length,s₀.heap.life,s₀.gens,s₀.drawn,s₀.toks,s₀.os⟩:SharedT).abs = s₀:=by
    have z:=toBT_spec (life:=s₀.heap.life) _ _ _ h2
    rw [Nat.zero_add] at z
    show Shared.mk (absHeap T s₀.heap.objs.toList.length s₀.heap.life) s₀.gens s₀.drawn s₀.toks s₀.os = s₀
    rw [z]; rfl
  have r:=topRunT_spec _ _ _ h3
  rw [e0] at r
  unfold openEnds
  rw [h1]
  show topFrom treeTable p w N s₀ = _
  unfold topFrom
  rw [g1]
  dsimp only
  rw [r]
  show (match staticsOk (importedModules p.main.body) s₀.heap s.abs.heap && namesBound p s.abs.heap && gensDone s.abs && laidKept s₀.heap s.abs.heap with | true=>some s.abs | false=>none) = _
  rw [g2]
theorem fragT_eq (as:List Addr) (s:SharedT):fragOf as s.abs.heap = fragT as s:=by
  unfold fragOf fragT
  congr 1
  funext a
  show ((absHeap s.tree s.n s.life).get? a).map _ = _
  congr 1
  unfold Heap.get?
  rw [absHeap_at]
  cases e:Nat.blt a s.n with
  | false=>rw [if_neg (fun q=>by rw [show Nat.blt a s.n = true from Nat.ble_eq_true_of_le q] at e; cases e)]
  | true=>
    rw [if_pos (show a < s.n from Nat.le_of_ble_eq_true e)]
    dsimp only
    generalize (s.tree.get a).getD default = o
    obtain ⟨c,d,dt,sl⟩:=o
    cases dt <;> rfl
theorem left_joinT {p q:Program} {Xt:Shared → Bool} {L:Law} {as:List Addr} {fa:Addr} {N:Nat} (n:Nat)
    (h0 : ∀ w, (openT p w N).map (fun x => (goodT p x.1 x.2.abs, nsIn (fragT as x.2) mainGlobals "law")) = some (true, some (some (.ref fa))))
    (h1:∀ w,(openT p w N).map (fun x=>(openSeen q [] (importedModules p.main.body) Xt true x.2.abs).1) = some (openGood q []).1)
    (h5:∀ w,(openT p w N).map (fun x=>(openSeen q [] (importedModules p.main.body) Xt true x.2.abs).2) = some (openGood q []).2)
    (h2:∀ w,(openT p w N).map (fun x=>ggOk L (fragT as x.2)) = some true)
    (h3:∀ w,(openT p w N).map (fun x=>(L.fnL.take n).map (compFn (L.cx (fragT as x.2)))) = some ((L.fns.take n).map some))
    (h4:∀ w,(openT p w N).map (fun x=>(L.fnL.drop n).map (compFn (L.cx (fragT as x.2)))) = some ((L.fns.drop n).map some)) :
    LeftO p q [] Xt (lawHook L as fa).obs (lawHook L as fa).val N:=fun w=>by
  obtain ⟨⟨s₀,s⟩,hs,e0⟩:=map_some' (h0 w)
  obtain ⟨a1,a2⟩:=Prod.mk.inj e0
  have e1:=h1 w
  have e2:=h2 w
  have e3:=h3 w
  have e4:=h4 w
  have e6:=h5 w
  rw [hs] at e1 e2 e3 e4 e6
  have e1:openSeen q [] (importedModules p.main.body) Xt true s.abs = openGood q []:=Prod.ext (Option.some.inj e1) (Option.some.inj e6)
  have e2:ggOk L (fragT as s) = true:=Option.some.inj e2
  have a2 : nsIn (fragT as s) mainGlobals "law" = some (some (.ref fa)) := a2
  rw [openT_ends hs a1]
  show some (openSeen q [] (importedModules p.main.body) Xt true s.abs, ggOk L (fragOf as s.abs.heap), L.fnL.map (compFn (L.cx (fragOf as s.abs.heap))), nsIn (fragOf as s.abs.heap) mainGlobals "law") = some (openGood q [], true, L.fns.map some, some (some (.ref fa)))
  rw [fragT_eq]
  have e5:L.fnL.map (compFn (L.cx (fragT as s))) = L.fns.map some:=by
    rw [← List.take_append_drop n L.fnL,← List.take_append_drop n L.fns,List.map_append,List.map_append]
    exact congr (congrArg _ (Option.some.inj e3)) (Option.some.inj e4)
  rw [e1,a2,e2,e5]
end Mine
end
noncomputable section
namespace Mine
open PySem PySem.W PyProof.Rows
noncomputable def frs (l:List Env):List Addr:=l.filterMap (·.frame)
structure FrE (G:Glb) (am:AM) (h:Heap) (env:Env):Prop where
  kind:env.scope.kind ≠ .module
  there:∃ L o es ep,env.frame = some L ∧ G.base.get? L = none ∧ h.get? L = some o ∧ o.data = .dict es ep ∧ L ∉ am.muts
noncomputable def Stk (G:Glb) (am:AM) (h:Heap) (l:List Env):Prop:=∀ env ∈ l,FrE G am h env
theorem mem_frs {l:List Env} {env:Env} {L:Addr} (he:env ∈ l) (hf:env.frame = some L):L ∈ frs l:=List.mem_filterMap.mpr ⟨env,he,hf⟩
structure KeepB (own:List Addr) (h:Heap) (am:AM) (B:Heap) (am':AM):Prop where
  keep:∀ b o,h.get? b = some o → b ∉ own → b ∉ am.muts → B.get? b = some o
  tup:TupKept h B
  ext:∃ l,am' = am ++ l ∧ ∀ p ∈ l,h.get? p.1 = none ∧ h.get? p.2 = none
noncomputable def Up (fr:List Addr) (h h':Heap):Prop:=∀ b ∈ fr,∀ o,h.get? b = some o → (∀ vs,o.data ≠ .fields vs) → ∃ sl,h'.get? b = some { o with slots:=sl }
noncomputable def ExcC (G:Glb) (w:Nat) (C:Addr):Prop:=∃ x,G.ws[w]? = some x ∧ nsIn G.K mainGlobals x = some (some (.ref C))
inductive Flt (B:Heap) (env:Env) (outer:List Env) (C a:Addr) (h:Heap):Prop
  | made (h0:Heap) (args:List Value):Heap.MadeExcOf h0 h a (.ref C) args → B.StaysIn h0 → h0.FunFrames B (env :: outer) → Flt B env outer C a h
  | fly (a0:Value):Heap.FlyingW B (env :: outer) a (.ref C) a0 h → Flt B env outer C a h
  | held (a0:Value) (L:Addr):env.frame = some L → Heap.HeldW B (env :: outer) a (.ref C) a0 L h → Flt B env outer C a h
inductive Fly (G:Glb) (l:List Env) (s:Shared) (am:AM) (X:Nat → Hp → Prop) (e:Value) (s':Shared):Prop
  | mk (a:Addr) (w:Nat) (C:Addr) (B:Heap) (a0:Value) (hp':Hp) (am':AM):e = .ref a → X w hp' → ExcC G w C → Heap.FlyingW B l a (.ref C) a0 s'.heap → HR G am' B hp' → KeepB (frs l) s.heap am B am' → Up (frs l) s.heap s'.heap → Same G s' → Fly G l s am X e s'
inductive XSt (G:Glb) (env:Env) (outer:List Env) (s:Shared) (am:AM) (X:Nat → Hp → Prop) (e:Value) (s':Shared):Prop
  | mk (a:Addr) (w:Nat) (C:Addr) (B:Heap) (hp':Hp) (am':AM):e = .ref a → X w hp' → ExcC G w C → Flt B env outer C a s'.heap → HR G am' B hp' → KeepB (ownA env ++ frs outer) s.heap am B am' → Up (frs outer) s.heap s'.heap → Same G s' → XSt G env outer s am X e s'
section
variable {G:Glb} {am am1 am':AM} {h h1 h' B:Heap} {l outer:List Env} {env:Env} {own:List Addr} {s s1:Shared} {X:Nat → Hp → Prop} {e:Value} {s':Shared}
theorem Stk.mem (k:Stk G am h l) {b:Addr} (hb:b ∈ frs l):G.base.get? b = none ∧ b ∉ am.muts ∧ ∃ o es ep,h.get? b = some o ∧ o.data = .dict es ep:=by
  obtain ⟨env,he,hf⟩:=List.mem_filterMap.mp hb
  obtain ⟨_,L,o,es,ep,h1,h2,h3,h4,h5⟩:=k env he
  rw [h1] at hf
  cases hf
  exact ⟨h2,h5,o,es,ep,h3,h4⟩
theorem Stk.step (k:Stk G am h l) (a:Aft own h am h' am') (d:∀ b ∈ frs l,b ∉ own):Stk G am' h' l:=fun env he=>by
  obtain ⟨kd,L,o,es,ep,h1,h2,h3,h4,h5⟩:=k env he
  exact ⟨kd,L,o,es,ep,h1,h2,a.keep L o h3 (d L (mem_frs he h1)) h5,h4,a.muts_out h5 (by rw [h3]; rfl)⟩
theorem Stk.frames (k:Stk G am h l):h.FunFrames G.base l:=by
  induction l with
  | nil=>trivial
  | cons env l ih=>
    obtain ⟨kd,L,o,es,ep,h1,h2,h3,h4,h5⟩:=k env (.head _)
    exact ⟨kd,⟨L,o,h1,h2,h3,fun vs q=>by rw [h4] at q; cases q⟩,ih fun e he=>k e (.tail _ he)⟩
theorem KeepB.back (a:Aft own h am h1 am1) (k:KeepB own h1 am1 B am'):KeepB own h am B am':=by
  refine ⟨fun b o e n1 n2=>k.keep b o (a.keep b o e n1 n2) n1 (a.muts_out n2 (by rw [e]; rfl)),a.tup.trans k.tup,?_⟩
  obtain ⟨l1,rfl,f1⟩:=a.ext
  obtain ⟨l2,rfl,f2⟩:=k.ext
  refine ⟨l1 ++ l2,List.append_assoc ..,fun p hp=>?_⟩
  rcases List.mem_append.mp hp with q | q
  · exact f1 p q
  · have none_of:∀ b,h1.get? b = none → h.get? b = none:=fun b z=>by
      cases c:h.get? b with
      | none=>rfl
      | some o=>have:=a.live b (by rw [c]; rfl); rw [z] at this; cases this
    exact ⟨none_of _ (f2 p q).1,none_of _ (f2 p q).2⟩
theorem KeepB.weak {own':List Addr} (k:KeepB own h am B am') (d:∀ b ∈ own,b ∈ own'):KeepB own' h am B am':=⟨fun b o e n=>k.keep b o e fun q=>n (d b q),k.tup,k.ext⟩
theorem Up.back {fr:List Addr} (a:Aft own h am h1 am1) (d:∀ b ∈ fr,b ∉ own ∧ b ∉ am.muts) (u:Up fr h1 h'):Up fr h h':=fun b hb o e n=>u b hb o (a.keep b o e (d b hb).1 (d b hb).2) n
theorem Up.then {fr:List Addr} (u:Up fr h h1) (k:h1.UpToSlots h'):Up fr h h':=fun b hb o e n=>by
  obtain ⟨sl,h1⟩:=u b hb o e n
  obtain ⟨sl',h2⟩:=k b _ h1 n
  exact ⟨sl',h2⟩
theorem XSt.back (a:Aft (ownA env) s.heap am s1.heap am1) (d:∀ b ∈ frs outer,b ∉ ownA env ∧ b ∉ am.muts) (x:XSt G env outer s1 am1 X e s'):XSt G env outer s am X e s':=by
  obtain ⟨a1,w,C,B,hp',am2,x1,x2,x3,x4,x5,x6,x7,x8⟩:=x
  refine ⟨a1,w,C,B,hp',am2,x1,x2,x3,x4,x5,KeepB.back (own:=ownA env ++ frs outer) ⟨fun b o e n=>a.keep b o e fun q=>n (List.mem_append_left _ q),a.tup,a.ext,a.live⟩ x6,x7.back a d,x8⟩
theorem Fly.inn (hf:env.frame = some env.locals) (x:Fly G (env :: outer) s am X e s'):XSt G env outer s am X e s':=by
  obtain ⟨a1,w,C,B,a0,hp',am2,x1,x2,x3,x4,x5,x6,x7,x8⟩:=x
  have e:frs (env :: outer) = env.locals :: frs outer:=by unfold frs; rw [List.filterMap_cons,hf]
  rw [e] at x6 x7
  refine ⟨a1,w,C,B,hp',am2,x1,x2,x3,.fly a0 x4,x5,x6.weak fun b hb=>?_,fun b hb=>x7 b (.tail _ hb),x8⟩
  rcases List.mem_cons.mp hb with rfl | hb
  · exact List.mem_append_left _ (.head _)
  · exact List.mem_append_right _ hb
end
section
variable {M:Model} {A:Around} {E:Value → Shared → Prop} {s:Shared} {B:Heap} {env:Env} {outer:List Env} {C a L:Addr} {Q:Unit → Shared → Prop}
theorem flt_leave (hfr:A.frames = some (env :: outer)) (hf:env.frame = some L) (f:Flt B env outer C a s.heap) (k:∀ h' a0,Heap.FlyingW B outer a (.ref C) a0 h' → s.heap.UpToSlots h' → Q () { s with heap:=h' }):wpAny M A (leaving env (.ref a)) Q E s:=by
  cases f with
  | made h0 args m st ff=>exact wpAny_leaves_madeW hfr hf st ff m fun h' t x1 zz zz x4=>k h' _ x1 x4
  | fly a0 f=>exact wpAny_leaves_onW hfr hf f fun h' x1 x2=>k h' _ x1 x2
  | held a0 L' hf' f=>
    unfold leaving
    refine wpAny_bind (wpAny_noteFrame_againW hf' f.2.2.2 ?_)
    refine wpAny_landsW f fun h' hfl sm=>?_
    obtain ⟨k1,k2,⟨_,_,k3⟩,k4⟩:=hfl
    exact k h' _ ⟨k1,k2,k3,k4⟩ sm
end
end Mine
end
noncomputable section
namespace Mine
open PySem PySem.W PyProof.Rows
section
variable {M:Model} {A:Around} {E:Value → Shared → Prop} {s:Shared} {B:Heap} {env:Env} {outer:List Env} {C a L:Addr} {Q:Unit → Shared → Prop}
theorem flt_note (hfr:A.frames = some (env :: outer)) (hf:env.frame = some L) (f:Flt B env outer C a s.heap) (k:∀ h' a0,Heap.HeldW B (env :: outer) a (.ref C) a0 L h' → s.heap.UpToSlots h' → Q () { s with heap:=h' }):wpAny M A (noteFrame (.ref a) env) Q E s:=by
  cases f with
  | made h0 args m st ff=>
    obtain ⟨t,he,htn,ht⟩:=m.there
    have fresh:B.get? a = none:=by
      cases hq:B.get? a with
      | none=>rfl
      | some o=>have:=st a o hq; rw [m.new] at this; cases this
    unfold noteFrame
    simp only [hf]
    refine wpAny_bind (wpAny_field he rfl (x:=.none) rfl ?_)
    rw [if_neg (by decide)]
    refine wpAny_entryW (a0:=.ref t) hfr (ff.of_keeps fun b o hb zz=>⟨o,m.keeps b o hb,rfl⟩) hf he (fun b o hb=>m.keeps b o (st b o hb)) fresh rfl (show 1 < 6 by decide) rfl fun h' hN=>?_
    obtain ⟨k1,k2,k3,k4⟩:=hN
    exact k h' _ ⟨k1,fresh,k2,k3⟩ k4
  | fly a0 f=>exact wpAny_looks_onW hfr hf f fun h' x1 x2=>k h' _ x1 x2
  | held a0 L' hf' f=>
    rw [hf] at hf'
    cases hf'
    exact wpAny_noteFrame_againW hf f.2.2.2 (k s.heap _ f (.refl _))
theorem held_came (hf:env.frame = some L) {a0:Value} (f:Heap.HeldW B (env :: outer) a (.ref C) a0 L s.heap) (k:∀ h',Heap.HeldW B (env :: outer) a (.ref C) a0 L h' → s.heap.UpToSlots h' → E (.ref a) { s with heap:=h' }):cameBackBy M A env E (.ref a) s:=by
  obtain ⟨f1,f2,f3,oe,vs,T,oT,ts,he,hcls,hd,h1,hnT,hTe,hT,hdT,h3⟩:=f
  have hsz3:3 < ts.size:=(Array.getElem?_eq_some_iff.mp h3).1
  have other:∀ b,b ≠ T → (s.heap.update T (Obj.mapFields (·.setIfInBounds 3 (rawInt L)))).get? b = s.heap.get? b:=fun b hb=>Heap.get?_update_other _ _ (Ne.symm hb)
  have noRecord:∀ b o,s.heap.get? b = some o → (∀ vs,o.data ≠ .fields vs) → b ≠ T:=fun b o hb hnf q=>by
    rw [q,hT] at hb; cases hb; exact hnf ts hdT
  unfold cameBackBy
  refine wpAny_bind (wpAny_field he hd h1 ?_)
  rw [if_neg (show ¬ ((Value.ref T == Value.none) = true) from by simp)]
  unfold setFlight
  rw [hf]
  refine wpAny_bind (wpAny_field he hd h1 ?_)
  rw [if_pos (show (Value.ref T != Value.none) = true from by simp)]
  refine wpAny_setField hT hdT hsz3 (k _ ⟨fun b o hbo=>(other b fun q=>by rw [q,hnT] at hbo; cases hbo).trans (f1 b o hbo),f2,f3.of_keeps fun b o hb hnf=>⟨o,(other b (noRecord b o hb hnf)).trans hb,rfl⟩,?_⟩ fun b o hb hnf=>⟨o.slots,(other b (noRecord b o hb hnf)).trans hb⟩)
  exact ⟨oe,vs,T,_,_,(other a (Ne.symm hTe)).trans he,hcls,hd,h1,hnT,hTe,Heap.get?_update_self _ hT (Obj.isFreed_of_fields (Obj.data_mapFields hdT _)),Obj.data_mapFields hdT _,by simp [hsz3]⟩
end
section
variable {G:Glb} {env:Env} {outer:List Env} {s:Shared} {am:AM} {X:Nat → Hp → Prop} {A:Around} {E:Value → Shared → Prop} {s':Shared} {e:Value}
theorem xst_came {E2:Value → Shared → Prop} (hfr:A.frames = some (env :: outer)) (hf:env.frame = some env.locals) (x:XSt G env outer s am X e s') (k:∀ e s',XSt G env outer s am X e s' → E e s') :
    wpAny (model G.prog G.w) A (do noteFrame e env; theTreesLotGoes e) (fun zz s2=>cameBackBy (model G.prog G.w) A env E e s2) E2 s':=by
  obtain ⟨a,w,C,B,hp',am',rfl,x2,x3,x4,x5,x6,x7,x8⟩:=x
  refine wpAny_bind (flt_note hfr hf x4 fun h' a0 hh up=>wpAny_theTreesLotGoes ?_)
  refine held_came hf hh fun h2 hh2 up2=>k _ _ ⟨a,w,C,B,hp',am',rfl,x2,x3,.held a0 _ hf hh2,x5,x6,(x7.then up).then up2,⟨x8.gens,x8.os⟩⟩
end
end Mine
end
noncomputable section
namespace Mine
open PySem PySem.W PyProof.Rows
mutual
noncomputable def nrE (NR:List Nat):E → Bool
  | .none=>true
  | .bool _=>true
  | .int _=>true
  | .str _=>true
  | .loc _=>true
  | .bin _ a b=>nrE NR a && nrE NR b
  | .not_ a=>nrE NR a
  | .cmp _ a b=>nrE NR a && nrE NR b
  | .cmp2 _ _ a b c=>nrE NR a && nrE NR b && nrE NR c
  | .and_ a b=>nrE NR a && nrE NR b
  | .or_ a b=>nrE NR a && nrE NR b
  | .idx a i=>nrE NR a && nrE NR i
  | .bi _ es=>nrEs NR es
  | .isi a _=>nrE NR a
  | .call f es=>NR.contains f && nrEs NR es
  | _=>false
noncomputable def nrEs (NR:List Nat):List E → Bool
  | []=>true
  | e :: es=>nrE NR e && nrEs NR es
end
theorem onSome_mono {α:Type} {o:Option α} {P Q:α → Prop} (k:∀ a,P a → Q a) (h:onSome o P):onSome o Q:=by
  cases o with
  | none=>exact h
  | some a=>exact k a h
noncomputable def Quiet (C:Oracle) (NR:List Nat):Prop:=∀ f vs h (Q Q':V → Hp → Prop) X,f ∈ NR → (∀ v h,Q v h → Q' v h) → C f vs h Q X → C f vs h Q' noX
section
variable {g:Genv} {C N:Oracle} {NR:List Nat} {X:Nat → Hp → Prop} {loc:Locs}
mutual
theorem nr_ok (hC:Quiet C NR):∀ (e:E),nrE NR e = true → ∀ (h:Hp) (Q Q':V → Hp → Prop),(∀ v h,Q v h → Q' v h) → wpE g C N loc e h Q X → wpE g C N loc e h Q' noX
  | .none,_=>fun h Q Q' k z=>k _ _ z
  | .bool _,_=>fun h Q Q' k z=>k _ _ z
  | .int _,_=>fun h Q Q' k z=>k _ _ z
  | .str _,_=>fun h Q Q' k z=>k _ _ z
  | .loc i,_=>fun h Q Q' k z=>onSome_mono (fun v q=>k v h q) (show onSome (getL loc i) fun v=>Q v h from z)
  | .bin op a b,q=>fun h Q Q' k z=>by
    have q:=Bool.and_eq_true_iff.mp q
    exact nr_ok hC a q.1 h _ _ (fun va h1 y=>nr_ok hC b q.2 h1 _ _ (fun vb h2 x=>onSome_mono (fun p w=>k _ _ w) x) y) z
  | .not_ a,q=>fun h Q Q' k z=>nr_ok hC a q h _ _ (fun v h1 y=>onSome_mono (fun b w=>k _ _ w) y) z
  | .cmp op a b,q=>fun h Q Q' k z=>by
    have q:=Bool.and_eq_true_iff.mp q
    exact nr_ok hC a q.1 h _ _ (fun va h1 y=>nr_ok hC b q.2 h1 _ _ (fun vb h2 x=>onSome_mono (fun p w=>k _ _ w) x) y) z
  | .cmp2 o1 o2 a b c,q=>fun h Q Q' k z=>by
    have q:=Bool.and_eq_true_iff.mp q
    have q1:=Bool.and_eq_true_iff.mp q.1
    refine nr_ok hC a q1.1 h _ _ (fun va h1 y=>nr_ok hC b q1.2 h1 _ _ (fun vb h2 x=>onSome_mono (fun r w=>?_) x) y) z
    cases r with
    | false=>exact k _ _ w
    | true=>exact nr_ok hC c q.2 h2 _ _ (fun vc h3 u=>onSome_mono (fun p w=>k _ _ w) u) w
  | .and_ a b,q=>fun h Q Q' k z=>by
    have q:=Bool.and_eq_true_iff.mp q
    refine nr_ok hC a q.1 h _ _ (fun va h1 y=>onSome_mono (fun r w=>?_) y) z
    cases r with
    | false=>exact k _ _ w
    | true=>exact nr_ok hC b q.2 h1 _ _ k w
  | .or_ a b,q=>fun h Q Q' k z=>by
    have q:=Bool.and_eq_true_iff.mp q
    refine nr_ok hC a q.1 h _ _ (fun va h1 y=>onSome_mono (fun r w=>?_) y) z
    cases r with
    | true=>exact k _ _ w
    | false=>exact nr_ok hC b q.2 h1 _ _ k w
  | .idx a i,q=>fun h Q Q' k z=>by
    have q:=Bool.and_eq_true_iff.mp q
    exact nr_ok hC a q.1 h _ _ (fun va h1 y=>nr_ok hC i q.2 h1 _ _ (fun vb h2 x=>onSome_mono (fun p w=>k _ _ w) x) y) z
  | .bi b es,q=>fun h Q Q' k z=>nrs_ok hC es q h _ _ (fun vs h1 y=>onSome_mono (fun p w=>k _ _ w) y) z
  | .isi a t,q=>fun h Q Q' k z=>nr_ok hC a q h _ _ (fun v h1 y=>onSome_mono (fun b w=>k _ _ w) y) z
  | .call f es,q=>fun h Q Q' k z=>by
    have q:=Bool.and_eq_true_iff.mp q
    exact nrs_ok hC es q.2 h _ _ (fun vs h1 y=>hC f vs h1 _ _ X (List.contains_iff_mem.mp q.1) k y) z
theorem nrs_ok (hC:Quiet C NR):∀ (es:List E),nrEs NR es = true → ∀ (h:Hp) (Q Q':List V → Hp → Prop),(∀ v h,Q v h → Q' v h) → wpEs g C N loc es h Q X → wpEs g C N loc es h Q' noX
  | [],_=>fun h Q Q' k z=>k _ _ z
  | e :: es,q=>fun h Q Q' k z=>by
    have q:=Bool.and_eq_true_iff.mp q
    exact nr_ok hC e q.1 h _ _ (fun v h1 y=>nrs_ok hC es q.2 h1 _ _ (fun vs h2 x=>k _ _ x) y) z
end
end
noncomputable def CallMix (G:Glb) (C:Oracle) (XF:List Nat) (r:Nat):Prop:=∀ (f:Nat) (a:Addr) (vs:List V) (hp:Hp) (Q:V → Hp → Prop) (X:Nat → Hp → Prop) (A:Around) (s:Shared) (am:AM) (vals:List Value) (l:List Env),f ∈ XF → G.fnA f = some a → C f vs hp Q X → RoomC noX A r → A.frames = some l → Stk G am s.heap l → G.base.objs.size ≤ s.heap.objs.size →
  HR G am s.heap hp → Same G s → RVs G.ws am s.heap vs vals →
  codeAny (model G.prog G.w) A (.call (.ref a) ⟨vals,[]⟩) (fun res s'=>match res with | .ok (.ret val)=>EvP G s am Q val s' | .ok _=>False | .error e=>Fly G l s am X e s') s
section
variable (G:Glb) (g:Genv) (C N:Oracle) (env:Env) (names:List (Str × NameKind)) (r:Nat)
noncomputable def MixS (st:Stmt) (i:Mine.S):Prop:=∀ (σ:St) (KN:St → Prop) (KR:V → Hp → Prop) (X:Nat → Hp → Prop) (A:Around) (s:Shared) (am:AM) (outer:List Env),
  wpS g C N i σ KN KR X → Room noX A r → A.frames = some (env :: outer) → Stk G am s.heap outer → (∀ b ∈ frs outer,b ∉ ownA env) → Rel G env names s am σ.loc σ.hp → wpAny (model G.prog G.w) A (exec st env) (SP G env names s am KN KR) (XSt G env outer s am X) s
noncomputable def MixSs (sts:List Stmt) (i:Mine.S):Prop:=∀ (σ:St) (KN:St → Prop) (KR:V → Hp → Prop) (X:Nat → Hp → Prop) (A:Around) (s:Shared) (am:AM) (outer:List Env),
  wpS g C N i σ KN KR X → Room noX A r → A.frames = some (env :: outer) → Stk G am s.heap outer → (∀ b ∈ frs outer,b ∉ ownA env) → Rel G env names s am σ.loc σ.hp → wpAny (model G.prog G.w) A (execs sts env) (SP G env names s am KN KR) (XSt G env outer s am X) s
end
section
variable {G:Glb} {g:Genv} {C N:Oracle} {env:Env} {names:List (Str × NameKind)} {r:Nat} {NR XF:List Nat}
theorem Stk.apart {am:AM} {h:Heap} {outer:List Env} (k:Stk G am h outer) (d:∀ b ∈ frs outer,b ∉ ownA env):∀ b ∈ frs outer,b ∉ ownA env ∧ b ∉ am.muts:=fun b hb=>⟨d b hb,(k.mem hb).2.1⟩
theorem mix_of {st:Stmt} {i:Mine.S} (h1:SndS G g C N env names r st i) (hx:∀ σ KN KR X,wpS g C N i σ KN KR X → wpS g C N i σ KN KR noX):MixS G g C N env names r st i:=fun σ KN KR X A s am outer h rm hfr hk hd R=>h1 σ KN KR noX A s am _ (hx _ _ _ _ h) rm R
theorem mixs_nil:MixSs G g C N env names r [] .skip:=fun σ KN KR X A s am outer h rm hfr hk hd R=>sndSs_nil (g:=g) (C:=C) (N:=N) σ KN KR noX A s am _ h rm R
theorem mixs_cons {st:Stmt} {sts:List Stmt} {i j:Mine.S} (h1:MixS G g C N env names r st i) (h2:MixSs G g C N env names r sts j):MixSs G g C N env names r (st :: sts) (.seq i j):=fun σ KN KR X A s am outer h rm hfr hk hd R=>by
  dsimp only [wS_seq] at h
  refine wpAny_execs_cons (wpAny_mono (h1 σ _ KR X A s am outer h rm hfr hk hd R) (fun fl s1 z=>?_) fun zz zz z=>z)
  cases fl with
  | next=>
    obtain ⟨l,hp,am1,z1,z2,z3⟩:=z
    exact wpAny_mono (h2 ⟨l,hp⟩ KN KR X A s1 am1 outer z1 rm hfr (hk.step z3 hd) hd z2) (fun zz zz y=>y.back z3) fun zz zz y=>y.back z3 (hk.apart hd)
  | ret v=>exact z
  | brk=>exact z.elim
  | cont=>exact z.elim
theorem mix_if {c:PySem.Expr} {a b:List Stmt} {ic:Mine.E} {ia ib:Mine.S} {pos:Pos} (hq:Quiet C NR) (hc:nrE NR ic = true) (h1:SndT G g C N env names r c ic) (h2:MixSs G g C N env names r a ia) (h3:MixSs G g C N env names r b ib):MixS G g C N env names r (.If c a b pos) (.if_ ic ia ib):=fun σ KN KR X A s am outer h rm hfr hk hd R=>by
  dsimp only [wS_if_] at h
  have h:=nr_ok hq ic hc _ _ _ (fun zz zz z=>z) h
  refine wpAny_If (wpAny_mono (h1 σ.loc σ.hp (fun b h=>match b with | true=>wpS g C N ia ⟨σ.loc,h⟩ KN KR X | false=>wpS g C N ib ⟨σ.loc,h⟩ KN KR X) noX A s am _ h rm R rfl) (fun b s1 z=>?_) fun zz zz z=>z.no.elim)
  obtain ⟨p1,am1,z1,z3,z4,z5⟩:=z
  have kk:=hk.step (own:=[]) z4 fun zz zz=>List.not_mem_nil
  cases b with
  | true=>exact wpAny_mono (h2 ⟨σ.loc,p1⟩ KN KR X A s1 am1 outer z1 rm hfr kk hd (R.step z4 z3 z5)) (fun zz zz y=>y.back z4.weaken) fun zz zz y=>y.back z4.weaken (hk.apart hd)
  | false=>exact wpAny_mono (h3 ⟨σ.loc,p1⟩ KN KR X A s1 am1 outer z1 rm hfr kk hd (R.step z4 z3 z5)) (fun zz zz y=>y.back z4.weaken) fun zz zz y=>y.back z4.weaken (hk.apart hd)
theorem Fly.back {l:List Env} {s s1:Shared} {am am1:AM} {X:Nat → Hp → Prop} {e:Value} {s':Shared} (a:Aft [] s.heap am s1.heap am1) (d:∀ b ∈ frs l,b ∉ am.muts) (x:Fly G l s1 am1 X e s'):Fly G l s am X e s':=by
  obtain ⟨a1,w,C,B,a0,hp',am2,x1,x2,x3,x4,x5,x6,x7,x8⟩:=x
  exact ⟨a1,w,C,B,a0,hp',am2,x1,x2,x3,x4,x5,KeepB.back (own:=frs l) ⟨fun b o e n=>a.keep b o e List.not_mem_nil,a.tup,a.ext,a.live⟩ x6,x7.back a fun b hb=>⟨List.not_mem_nil,d b hb⟩,x8⟩
theorem Rel.stk {s:Shared} {am:AM} {loc:Locs} {hp:Hp} {outer:List Env} (R:Rel G env names s am loc hp) (hf:env.frame = some env.locals) (hkd:env.scope.kind = .function) (k:Stk G am s.heap outer):Stk G am s.heap (env :: outer):=fun e he=>by
  rcases List.mem_cons.mp he with rfl | he
  · obtain ⟨m,F,_⟩:=R.fr
    obtain ⟨o,ho,_,es,ep,hd⟩:=ns_obj F.ns
    exact ⟨by rw [hkd]; decide,_,o,es,ep,hf,(R.own _ (.head _)).2,ho,hd,(R.own _ (.head _)).1⟩
  · exact k e he
theorem mix_call (GK : GG G g) (O : EnvOk env names) (hf : env.frame = some env.locals) (HC : CallMix G C XF r) (hq : Quiet C NR) {x : Str} {p pos pos' : Pos} {es : List PySem.Expr} {is : List Mine.E} {f : Nat} {a : Addr} (hx : f ∈ XF) (hk : env.kindOf x = some .globalImplicit) (hd : (x == ("__debug__" : Str)) = false) (hfa : G.fnA f = some a)
    (e:nsIn G.K mainGlobals x = some (some (.ref a))) (hn:es.all notStar = true) (hi:nrEs NR is = true) (h1:SndEs G g C N env names r es is):MixS G g C N env names r (.Expr (.Call (.Name x p) es [] pos) pos') (.expr (.call f is)):=fun σ KN KR X A s am outer h rm hfr hs hap R=>by
  dsimp only [wS_expr,wE_call] at h
  have h:=nrs_ok hq is hi _ _ _ (fun zz zz z=>z) h
  refine wpAny_Expr_any ?_ (interactive_no O) (swaps_plain rfl _ _ _)
  rw [eval_Call_plain ⟨x,p,rfl⟩]
  refine wpAny_bind (snd_global GK O R hk hd e ?_)
  refine callWith_es (P:=fun h=>∀ b o,G.base.get? b = some o → h.get? b = some o) hn (fun hh kb=>keeps_K (GK.fnKeep f a hfa) hh (GK.ok.x.keeps kb)) (wpAny_mono (h1 pos σ.loc σ.hp _ noX A s am h rm R) (fun vals s1 z=>?_) fun zz zz z=>z.no.elim)
  obtain ⟨zl,vs,p1,am1,z1,z2,z3,z4,z5⟩:=z
  have R1:=R.step z4 z3 z5
  have k1:=R1.stk hf O.kind (hs.step (own:=[]) z4 fun zz zz=>List.not_mem_nil)
  refine ⟨z3.base,wpAny_call (codeAny_mono (HC f a vs p1 _ X A s1 am1 vals _ hx hfa z1 rm.c hfr k1 R1.size z3 z5 z2) fun res s' y=>?_)⟩
  rcases res with e | (_ | _ | _ | v)
  · exact (y.back z4 fun b hb=>((R.stk hf O.kind hs).mem hb).2.1).inn hf
  · exact y.elim
  · exact y.elim
  · exact y.elim
  · obtain ⟨c,p2,am2,y1,y2,y3,y4,y5⟩:=EvP.back z4 y
    exact ⟨σ.loc,p2,am2,y1,R.step y4 y3 y5,y4.weaken⟩
end
end Mine
end
noncomputable section
namespace Mine
open PySem PySem.W PyProof.Rows
section
variable {G:Glb} {g:Genv} {C N:Oracle} {env:Env} {names:List (Str × NameKind)} {r:Nat} {NR XF:List Nat} {A:Around}
theorem for_unrollX {s:Shared} {target:PySem.Expr} {it:Value} {body:List Stmt} {Rr:Result → Shared → Prop}
    (h:wpAny (model G.prog G.w) A (pyNext it) (fun rr s1=>match rr with
      | none=>Rr (.ok .next) s1
      | some v=>wpAny (model G.prog G.w) A (letOwnedTupleGo target it v) (fun zz s1'=>wpAny (model G.prog G.w) A (assign target env v) (fun zz s2=>wpAny (model G.prog G.w) A (execs body env) (fun f s3=>match f with
        | .next | .cont=>codeAny (model G.prog G.w) A (.forLoop target it body [] env) Rr s3
        | .brk=>Rr (.ok .next) s3
        | .ret v=>Rr (.ok (.ret v)) s3) (fun e s3=>wpAny (model G.prog G.w) A (do noteFrame e env; theTreesLotGoes e) (fun zz s4=>Rr (.error e) s4) (fun e' s4=>Rr (.error e') s4) s3) s2) (fun zz zz=>False) s1') (fun zz zz=>False) s1) (fun zz zz=>False) s):codeAny (model G.prog G.w) A (.forLoop target it body [] env) Rr s:=by
  refine codeAny_of_tree ?_
  rw [Around.under_of_weight (c:=.forLoop target it body [] env) rfl]
  show wpAny _ A ((forTurn target it body [] env).onRaise (fun x=>do noteFrame x env; theTreesLotGoes x)) _ _ s
  refine wpAny_onRaise ?_
  simp only [forTurn]
  refine wpAny_bind (wpAny_standAt (wpAny_bind (wpAny_onRaise (wpAny_mono h (fun rr s1 h1=>?_) fun zz zz x=>x.elim))))
  cases rr with
  | none=>exact wpAny_pure ⟨rfl,codeAny_block (wpAny_execs_nil h1)⟩
  | some v=>
    refine wpAny_bind (wpAny_mono h1 (fun zz s1' h1'=>?_) fun zz zz x=>x.elim)
    refine wpAny_bind (wpAny_mono h1' (fun zz s2 h2=>wpAny_bind (wpAny_mono h2 (fun f s3 h3=>?_) fun zz zz x=>x)) fun zz zz x=>x.elim)
    cases f with
    | next=>exact wpAny_pure ⟨rfl,h3⟩
    | cont=>exact wpAny_pure ⟨rfl,h3⟩
    | brk=>exact wpAny_pure h3
    | ret v=>exact wpAny_pure h3
theorem for_runX {X:Nat → Hp → Prop} {target:PySem.Expr} {body:List Stmt} {is:List Nat} {ib:Mine.S} {a:Addr} {its:List Addr} {tg:PySem.Expr → Prop} {grd:Hp → Prop} {P:List V → Heap → AM → Prop} {P2:Value → List V → Heap → AM → Prop} {KN:St → Prop} {KR:V → Hp → Prop} {s0:Shared} {am0:AM} {outer:List Env}
    (ip:IterP G a its tg grd P P2) (htg:tg target) (ht:SndTgt G false env names target is) (hb:MixSs G g C N env names r body ib) (rm:Room noX A r) (hfr:A.frames = some (env :: outer)) (hf:env.frame = some env.locals) (hd:∀ b ∈ frs outer,b ∉ ownA env) (hao:∀ x ∈ its,x ∉ ownA env) (hab:∀ x ∈ its,G.base.get? x = none) (ha0:∀ x ∈ its,s0.heap.get? x = none) (hk:Stk G am0 s0.heap outer) :
    ∀ (xs:List V) (σ:St) (s:Shared) (am:AM),forWp grd (fun x σ K=>onSome (bindT is x σ.loc) fun l=>wpS g C N ib ⟨l,σ.hp⟩ K KR X) xs σ KN → P xs s.heap am → Rel G env names s am σ.loc σ.hp → (∀ x ∈ its,x ∉ am.muts) → Aft (ownA env) s0.heap am0 s.heap am →
      codeAny (model G.prog G.w) A (.forLoop target (.ref a) body [] env) (fun res s'=>match res with | .ok f=>SP G env names s0 am0 KN KR f s' | .error e=>cameBackBy (model G.prog G.w) A env (XSt G env outer s0 am0 X) e s') s:=by
  intro xs
  induction xs with
  | nil=>
    intro σ s am h p R hm af
    obtain ⟨gd,kn⟩:=h
    refine for_unrollX (ip.fin A s am σ.hp _ _ rm.handled p R.hr gd fun h' k=>?_)
    obtain ⟨hr',tk⟩:=R.hr.keepBut k (ip.live _ _ _ p) hm hab
    exact ⟨σ.loc,σ.hp,am,kn,R.keepBut (tk:=s.toks) k hr' tk hao,af.transBut k ha0 tk⟩
  | cons x xs ih=>
    intro σ s am h p R hm af
    obtain ⟨gd,st⟩:=h
    refine for_unrollX (ip.next A s am σ.hp x xs _ _ p R.hr gd fun h' tk val rv p' k=>?_)
    obtain ⟨hr',tkp⟩:=R.hr.keepBut k (ip.live _ _ _ p) hm hab
    have R1:=R.keepBut (tk:=tk) k hr' tkp hao
    have af1:=af.transBut k ha0 tkp
    refine ip.goes A { s with heap:=h',toks:=tk } am xs target val _ _ htg p' fun h'' p'' k''=>?_
    obtain ⟨hr'',tkp''⟩:=hr'.keepBut k'' (ip.live2 _ _ _ _ p') hm hab
    have R2:=R1.keepBut (tk:=tk) k'' hr'' tkp'' hao
    have af2:=af1.transBut k'' ha0 tkp''
    cases hbt:bindT is x σ.loc with
    | none=>rw [hbt] at st; exact st.elim
    | some l=>
      rw [hbt,onSome_some] at st
      refine ht A _ am σ.loc l σ.hp x val _ _ rm.handled hbt (rv.mono tkp'' fun zz zz e=>e) R2 fun s3 R3 a3=>?_
      have p3:=ip.after p'' a3 hao hm
      have hm3:=ip.out p'' a3 hm
      have af3:=af2.trans a3
      refine wpAny_mono (hb ⟨l,σ.hp⟩ _ KR X A s3 am outer st rm hfr (hk.step af3 hd) hd R3) (fun fl s4 z=>?_) fun e s4 z=>?_
      · cases fl with
        | next=>
          obtain ⟨l4,hp4,am4,z1,z2,z3⟩:=z
          exact ih ⟨l4,hp4⟩ s4 am4 z1 (ip.after p3 z3 hao hm3) z2 (ip.out p3 z3 hm3) (af3.trans z3)
        | ret v=>exact SP.back (fl:=.ret v) af3 z
        | brk=>exact z.elim
        | cont=>exact z.elim
      · exact xst_came hfr hf (z.back af3 (hk.apart hd)) fun zz zz y=>y
theorem mix_for {target iter:PySem.Expr} {body:List Stmt} {k:ItK} {is:List Nat} {i:Mine.E} {ib:Mine.S} {pos:Pos} (hf:foldedPlain iter = true) (hfe:env.frame = some env.locals) (hq:Quiet C NR) (hc:nrE NR i = true) (htg:kTg k target) (hi:SndIt G g C N env names r iter k i) (ht:SndTgt G false env names target is) (hb:MixSs G g C N env names r body ib) :
    MixS G g C N env names r (.For target iter body [] pos) (.for_ is k i ib):=fun σ KN KR X A s am outer h rm hfr hs hd R=>by
  dsimp only [wS_for_] at h
  have h:=nr_ok hq i hc _ _ _ (fun zz zz z=>z) h
  refine wpAny_For (wpAny_mono (hi σ.loc σ.hp (fun xs grd h=>forWp grd (fun x σ K=>onSome (bindT is x σ.loc) fun l=>wpS g C N ib ⟨l,σ.hp⟩ K KR X) xs ⟨σ.loc,h⟩ KN) noX A s am _ h rm R) (fun x s1 z=>wpAny_mono z (fun it s2 y=>?_) fun zz zz y=>y) fun zz zz z=>z) (folded_plain hf _)
  obtain ⟨a,its,xs,grd,P,P2,hp',am',rfl,y1,ip,y2,y3,y4,y5,y6,y7,y8⟩:=y
  have hao:∀ x ∈ its,x ∉ ownA env:=fun x hx q=>by
    have:(s.heap.get? x).isSome = true:=by
      simp only [ownA,List.mem_cons,List.mem_map] at q
      rcases q with e | ⟨c,hc,e⟩
      · obtain ⟨m,F,_⟩:=R.fr
        obtain ⟨o,es,ep,ho,_⟩:=F.ns; rw [e,ho]; rfl
      · rw [← e]; exact (R.apartL c hc).2
    rw [y5 x hx] at this; cases this
  exact for_runX ip htg ht hb rm hfr hfe hd hao y7 y5 hs xs ⟨σ.loc,hp'⟩ s2 am' y1 y2 (R.step y4 y3 y8) y6 y4.weaken
theorem hide_hr {am:AM} {h:Heap} {hp:Hp} {l:List Env} (k:Stk G am h l) (x:HR G am h hp):HR G am (hideAll h (frs l)) hp ∧ TupKept h (hideAll h (frs l)):=by
  have tk:TupKept h (hideAll h (frs l)):=fun b items t=>by
    obtain ⟨ob,hb,hcl,n,r⟩:=t
    refine ⟨ob,hideAll_get _ hb fun q=>?_,hcl,n,r⟩
    obtain ⟨_,_,o,es,ep,e,d⟩:=k.mem q
    rw [hb] at e; cases e; rw [d] at r; cases r
  refine ⟨⟨x.len,x.nodup,fun i oi p h1 h2=>?_,fun b ob e=>?_⟩,tk⟩
  · have mem:=List.mem_of_getElem? h2
    have n2:p.2 ∉ frs l:=fun q=>(k.mem q).2.1 (List.mem_map_of_mem mem)
    have n1:p.1 ∉ frs l:=fun q=>by
      obtain ⟨_,_,o,es,ep,e,d⟩:=k.mem q
      have z:=x.first e (fun C dx c=>by rw [c] at d; cases d) p mem rfl
      exact n2 (z ▸ q)
    exact (x.objs i oi p h1 h2).mono tk (fun zz zz e=>e) (fun ob e=>hideAll_get _ e n1) (fun ob e=>hideAll_get _ e n2)
  · exact hideAll_get _ (x.base b ob e) fun q=>by rw [(k.mem q).1] at e; cases e
theorem xst_made {s s2:Shared} {am:AM} {loc:Locs} {hp:Hp} {outer:List Env} {X:Nat → Hp → Prop} {a Ca:Addr} {w:Nat} {args:List Value} (O:EnvOk env names) (hf:env.frame = some env.locals) (R:Rel G env names s am loc hp) (hk:Stk G am s.heap outer) (hX:X w hp) (hc:ExcC G w Ca) (m:Heap.MadeExcOf s.heap s2.heap a (.ref Ca) args) (sm:Same G s2) :
    XSt G env outer s am X (.ref a) s2:=by
  have k:=R.stk hf O.kind hk
  obtain ⟨hr,tk⟩:=hide_hr k R.hr
  have e:frs (env :: outer) = env.locals :: frs outer:=by unfold frs; rw [List.filterMap_cons,hf]
  refine ⟨a,w,Ca,hideAll s.heap (frs (env :: outer)),hp,am,rfl,hX,hc,.made s.heap args m (fun b o q=>of_hideAll _ q) (funFrames_hide k.frames fun e he b hb=>mem_frs he hb),hr,⟨fun b o h1 h2 zz=>hideAll_get _ h1 fun q=>h2 ?_,tk,[],by simp,by simp⟩,fun b hb o h1 zz=>⟨o.slots,m.keeps b o h1⟩,sm⟩
  rw [e] at q
  rcases List.mem_cons.mp q with rfl | q
  · exact List.mem_append_left _ (.head _)
  · exact List.mem_append_right _ q
theorem mix_raise (GK : GG G g) (TR : ∃ p loose mg mb, TopRead p loose mg mb G.base) (O : EnvOk env names) (hf : env.frame = some env.locals) {x : Str} {Ca : Addr} {w : Nat} {m : Str} {k : Nat} {np cp cpos pos : Pos} (hw : G.ws[w]? = some x) (hk : env.kindOf x = some .globalImplicit) (hd : (x == ("__debug__" : Str)) = false) (e : nsIn G.K mainGlobals x = some (some (.ref Ca))) (hx : excIn G.K Ca vErr "ValueError.__new__" = true) :
    MixS G g C N env names r (.Raise (some (.Call (.Name x np) [.Constant (.str m) k cp] [] cpos)) none pos) (.raise w):=fun σ KN KR X A s am outer h rm hfr hs hap R=>by
  dsimp only [wS_raise] at h
  obtain ⟨p,loose,mg,mb,T⟩:=TR
  obtain ⟨tl,Nn,nm,q,bs,hdct,sn,sub,ab,col,dd,k0,k1,k2,k3,k5,mN,hC,hN,hni,TL⟩:=(own_of_in GK.ok.x T e hx).obj
  have kb:=R.hr.base
  refine wpAny_Raise_call_subT (C:=Ca) (nm:=nm) (q:=q) (N:=Nn) (bs:=bs) (bm:=tl) (hdct:=hdct) (sn:=sn) (sub:=sub) (ab:=ab) (col:=col) (dd:=dd) (k0:=k0) (k1:=k1) (k2:=k2) (k3:=k3) (k5:=k5)
    F.excBase_ValueError (mN:=mN) (TL.hasType F.excBase_ValueError.hasBase) rm.handled (by rw [starEach_cons rfl]; rfl) hni (snd_global GK O R hk hd e ⟨rfl,?_⟩)
  rw [starEach_cons (e:=.Constant (.str m) k cp) rfl]
  exact Calls.evalArgs_plain (Calls.spliced_cons (wpAny_Constant_str (k:=k) (pos:=cp) (Calls.spliced_nil ⟨rfl,by show 1 ≤ sizeLine; decide,kb _ _ hC,hN.keeps kb,TL.keeps kb,fun h' e' hm=>xst_made O hf R hs h ⟨x,hw,e⟩ hm ⟨R.same.gens,R.same.os⟩⟩)))
end
end Mine
end
noncomputable section
namespace Mine
open PySem PySem.W PyProof.Rows
noncomputable def xfS (NR XF:List Nat):S → Bool
  | .skip=>true
  | .seq a b=>xfS NR XF a && xfS NR XF b
  | .expr e=>match e with
    | .call f es=>XF.contains f && nrEs NR es
    | _=>false
  | .asg t e=>match t with
    | .loc _=>nrE NR e
    | _=>false
  | .if_ c a b=>nrE NR c && (xfS NR XF a && xfS NR XF b)
  | .for_ _ _ src b=>nrE NR src && xfS NR XF b
  | .ret e=>nrE NR e
  | .raise _=>true
  | .while_ _ _=>false
section
variable {cx:Cx} {G:Glb} {g:Genv} {C N:Oracle} {r rn:Nat} {NR XF:List Nat}
structure AllX (cx:Cx) (NR XF:List Nat) (G:Glb) (g:Genv) (C N:Oracle) (r:Nat) (names:List (Str × NameKind)) (sc:Scope) (env:Env) (n:Nat):Prop where
  s:∀ st i,compS cx names sc n st = some i → xfS NR XF i = true → MixS G g C N env names r st i
  ss:∀ sts i,compSs cx names sc n sts = some i → xfS NR XF i = true → MixSs G g C N env names r sts i
theorem ret_quiet (hq:Quiet C NR) {e:E} (h:nrE NR e = true):∀ σ KN KR X,wpS g C N (.ret e) σ KN KR X → wpS g C N (.ret e) σ KN KR noX:=fun σ KN KR X z=>nr_ok hq e h _ _ _ (fun zz zz y=>y) z
theorem asg_quiet (hq:Quiet C NR) {e:E} {j:Nat} (h:nrE NR e = true):∀ σ KN KR X,wpS g C N (.asg (.loc j) e) σ KN KR X → wpS g C N (.asg (.loc j) e) σ KN KR noX:=fun σ KN KR X z=>nr_ok hq e h _ _ _ (fun zz zz y=>y) z
inductive CallI (cx:Cx) (names:List (Str × NameKind)) (sc:Scope) (n:Nat) (i:Mine.E):PySem.Expr → Prop
  | mk {x:Str} {p pos:Pos} {es:List PySem.Expr} {f:Nat} {is:List Mine.E}:hdOf cx sc x = some (.fn f) → compEs cx names sc n es = some is → i = .call f is → CallI cx names sc n i (.Call (.Name x p) es [] pos)
theorem callX_inv {names:List (Str × NameKind)} {sc:Scope} {n:Nat} {i:Mine.E} {fe:PySem.Expr} {es:List PySem.Expr} {kws:List Keyword} {pos:Pos} (h:compE cx names sc (n + 1) (.Call fe es kws pos) = some i) (hx:xfS NR XF (.expr i) = true):CallI cx names sc n i (.Call fe es kws pos):=by
  cases hk:callK fe kws with
  | no=>
    change (match callK fe kws with | .name x=>_ | .meth a x ap=>_ | .no=>none) = some i at h
    rw [hk] at h; cases h
  | meth a x ap=>
    obtain ⟨rfl,rfl⟩:=callK_meth hk
    obtain ⟨_,h⟩:=if_some (show (if notCall a = true ∧ es.length < 30 ∧ (ap.endLine == pos.line) = true then _ else none) = some i from h)
    obtain ⟨j,h1,h⟩:=bind_some h
    obtain ⟨m,h2,h⟩:=bind_some h
    obtain ⟨is,h3,h⟩:=map_some' h
    subst h
    cases hx
  | name x=>
    obtain ⟨⟨p,rfl⟩,rfl⟩:=callK_name hk
    change (match hdOf cx sc x with | some .isi=>_ | some h=>(compEs cx names sc n es).bind (headE h) | none=>none) = some i at h
    cases hh:hdOf cx sc x with
    | none=>rw [hh] at h; cases h
    | some hd=>
      rw [hh] at h
      cases hd with
      | isi=>
        obtain ⟨q,h1,h⟩:=bind_some h
        obtain ⟨hst,h⟩:=if_some h
        obtain ⟨j,h2,h⟩:=bind_some h
        obtain ⟨ty,h3,h⟩:=map_some' h
        subst h
        cases hx
      | cls c=>
        obtain ⟨is,h1,h⟩:=bind_some h
        cases h
        cases hx
      | bi b=>
        obtain ⟨is,h1,h⟩:=bind_some h
        cases h
        cases hx
      | fn f=>
        obtain ⟨is,h1,h⟩:=bind_some h
        cases h
        exact .mk hh h1 rfl
theorem exprX (X:CxOk cx G) (GK:GG G g) (HC:CallOk G C r) (HN:CallOk G N rn) (hrn:r = rn + 1 ∨ ∀ f vs hp Q X,¬ N f vs hp Q X) (HM:CallMix G C XF r) (hq:Quiet C NR) {names:List (Str × NameKind)} {sc:Scope} {env:Env} (O:EnvOk env names) (hs:env.scope = sc) (hf:env.frame = some env.locals)
    {n:Nat} {e:PySem.Expr} {p:Pos} {i:Mine.E} (hc:(callV e).isSome = true) (h:compE cx names sc n e = some i) (hx:xfS NR XF (.expr i) = true):MixS G g C N env names r (.Expr e p) (.expr i):=by
  obtain ⟨⟨⟨f,es,kws,pos⟩,e1⟩,_⟩:=Option.isSome_iff_exists.mp hc
  subst e1
  cases n with
  | zero=>cases h
  | succ n=>
    obtain ⟨hh,h1,hi⟩:=callX_inv h hx
    subst hi
    have hx:=Bool.and_eq_true_iff.mp hx
    obtain ⟨e1,e2,_⟩:=((compAll_ok X GK HC HN hrn n names sc env O hs).es _ _ h1).all
    cases hd_ok hh with
    | fn a b c=>exact mix_call GK O hf HM hq (List.contains_iff_mem.mp hx.1) (isGl_ok hs a).1 (isGl_ok hs a).2 (X.fn _ _ c) (by rw [X.K]; exact b) e2 hx.2 e1
theorem compX_ok (X:CxOk cx G) (GK:GG G g) (TR:∃ p loose mg mb,TopRead p loose mg mb G.base) (HC:CallOk G C r) (HN:CallOk G N rn) (hrn:r = rn + 1 ∨ ∀ f vs hp Q X,¬ N f vs hp Q X) (HM:CallMix G C XF r) (hq:Quiet C NR) {names:List (Str × NameKind)} {sc:Scope} {env:Env} (O:EnvOk env names) (hs:env.scope = sc) (hf:env.frame = some env.locals) :
    ∀ (n:Nat),AllX cx NR XF G g C N r names sc env n:=by
  have AE:=compAll_ok X GK HC HN hrn
  have AS:=fun n=>compS_ok X GK HC HN hrn O hs n
  intro n
  induction n with
  | zero=>exact ⟨fun zz zz h=>(by cases h),fun zz zz h=>(by cases h)⟩
  | succ n ih=>
    have I:=AE n names sc env O hs
    refine ⟨fun st i h hx=>?_,fun sts i h hx=>?_⟩
    · have hn:=(AS (n + 1)).s st i h
      cases cs_inv h with
      | pass=>exact mix_of hn fun zz zz zz zz z=>z
      | expr hc h1=>exact exprX X GK HC HN hrn HM hq O hs hf hc.2 h1 hx
      | ret0=>exact mix_of hn fun zz zz zz zz z=>z
      | ret h1=>exact mix_of hn (ret_quiet hq hx)
      | if_ h1 h2 h3=>
        have hx:=Bool.and_eq_true_iff.mp hx
        have hx2:=Bool.and_eq_true_iff.mp hx.2
        exact mix_if hq hx.1 (I.t _ _ h1) (ih.ss _ _ h2 hx2.1) (ih.ss _ _ h3 hx2.2)
      | raise h1=>
        cases h1 with
        | mk g1 g2 g3 g4=>exact mix_raise GK TR O hf (by rw [X.ws]; exact g4) (isGl_ok hs g1).1 (isGl_ok hs g1).2 (by rw [X.K]; exact g2) (by rw [X.K]; exact g3)
      | while_ h1 h2=>cases hx
      | for_ hc h1 h2 hft h3=>
        have hx:=Bool.and_eq_true_iff.mp hx
        exact mix_for hc hf hq hx.1 (fits_ok hft) (I.it _ _ h2) (tg_ok h1 O) (ih.ss _ _ h3 hx.2)
      | asgN h1=>exact mix_of hn (asg_quiet hq hx)
      | asgA hc h1 h2 h3=>cases hx
      | asgI hc h1 h2 h3=>cases hx
      | asgU hc h1 hl h2=>cases hx
    · cases sts with
      | nil=>cases h; exact mixs_nil
      | cons st sts=>
        obtain ⟨j,h1,h⟩:=bind_some (show (compS cx names sc n st).bind _ = some i from h)
        obtain ⟨k,h2,h⟩:=map_some' h
        subst h
        have hx:=Bool.and_eq_true_iff.mp hx
        exact mixs_cons (ih.s _ _ h1 hx.1) (ih.ss _ _ h2 hx.2)
end
end Mine
end
noncomputable section
namespace Mine
open PySem PySem.W PyProof.Rows
section
variable {cx:Cx} {G:Glb} {g:Genv} {C N:Oracle} {r rn:Nat} {NR XF:List Nat}
theorem Entry.leave {names:List (Str × NameKind)} {scope:Scope} {cdv:Value} {qual:Str} {s:Shared} {am:AM} {loc:Locs} {hp:Hp} {A:Around} {env:Env} {s₁:Shared} {l:List Env} {X:Nat → Hp → Prop} {e:Value} {s':Shared} {E:Value → Shared → Prop} (I:Entry G names scope cdv qual s am loc hp noX A r env s₁) (hl:A.frames = some l) (hk:Stk G am s.heap l) (z:XSt G env l s₁ am X e s') :
    wpAny (model G.prog G.w) (A.deeper env) (leaving env e) (fun zz s''=>Fly G l s am X e s'') E s':=by
  obtain ⟨a,w,Ca,B,hp',am',rfl,x2,x3,x4,x5,x6,x7,x8⟩:=z
  refine flt_leave (Around.frames_deeper hl) I.fr x4 fun h' a0 fl up=>⟨a,w,Ca,B,a0,hp',am',rfl,x2,x3,fl,x5,?_,?_,⟨x8.gens,x8.os⟩⟩
  · obtain ⟨ll,e,f2⟩:=x6.ext
    have none_of:∀ b,s₁.heap.get? b = none → s.heap.get? b = none:=fun b z=>by
      cases q:s.heap.get? b with
      | none=>rfl
      | some o=>rw [I.kp _ _ q] at z; cases z
    refine ⟨fun b o e n1 n2=>x6.keep b o (I.kp b o e) (fun q=>?_) n2,fun b i t=>x6.tup b i (t.keeps I.kp),⟨ll,e,fun p hp1=>⟨none_of _ (f2 p hp1).1,none_of _ (f2 p hp1).2⟩⟩⟩
    rcases List.mem_append.mp q with q | q
    · rw [I.own b q] at e; cases e
    · exact n1 q
  · exact Up.then (fun b hb o e n=>x7 b hb o (I.kp b o e) n) up
theorem Entry.stk {names:List (Str × NameKind)} {scope:Scope} {cdv:Value} {qual:Str} {s:Shared} {am:AM} {loc:Locs} {hp:Hp} {A:Around} {env:Env} {s₁:Shared} {l:List Env} {X:Nat → Hp → Prop} (I:Entry G names scope cdv qual s am loc hp X A r env s₁) (hk:Stk G am s.heap l):Stk G am s₁.heap l ∧ ∀ b ∈ frs l,b ∉ ownA env:=by
  refine ⟨fun e he=>?_,fun b hb q=>?_⟩
  · obtain ⟨kd,L,o,es,ep,h1,h2,h3,h4,h5⟩:=hk e he
    exact ⟨kd,L,o,es,ep,h1,h2,I.kp _ _ h3,h4,h5⟩
  · obtain ⟨_,_,o,es,ep,e,d⟩:=hk.mem hb
    rw [I.own b q] at e; cases e
theorem comps_head {names:List (Str × NameKind)} {sc:Scope} {n:Nat} {body:List Stmt} {s1 s2:S} (h:compSs cx names sc (n + 1) body = some (.seq s1 s2)):∃ st sts,body = st :: sts ∧ compS cx names sc n st = some s1:=by
  cases body with
  | nil=>cases h
  | cons st sts=>
    obtain ⟨j,h1,h⟩:=bind_some (show (compS cx names sc n st).bind _ = some _ from h)
    obtain ⟨k,h2,h⟩:=map_some' h
    cases h
    exact ⟨st,sts,rfl,h1⟩
variable (hfn:∀ f fn,g.fn f = some fn → ∃ a,cx.fnL[f]? = some a ∧ compFn cx a = some fn)
include hfn
theorem stepX_ok (X:CxOk cx G) (GK:GG G g) (TR:∃ p loose mg mb,TopRead p loose mg mb G.base) (hxf:∀ f ∈ XF,∃ fn,g.fn f = some fn ∧ xfS NR XF fn.body = true) (HC:CallOk G C r) (HN:CallOk G N rn) (hrn:r = rn + 1 ∨ ∀ f vs hp Q X,¬ N f vs hp Q X) (HM:CallMix G C XF r) (hq:Quiet C NR):CallMix G (stepC g C N) XF (r + 1):=by
  intro f a vs hp Q X' A s am vals l hx hf hC rm hl hk sz hr sm rv
  obtain ⟨fn,hg,hxs⟩:=hxf f hx
  obtain ⟨a',h1,h2⟩:=hfn f fn hg
  have:=X.fn _ _ h1
  rw [hf] at this; cases this
  obtain ⟨⟨ho,k3⟩,hps,k1,k2,q,e⟩:=comp_fn h2
  subst e
  unfold stepC at hC
  rw [hg,onSome_some] at hC
  obtain ⟨c1,c2,c3⟩:=hC
  refine frame_in GK (by rw [X.K]; exact ho) (by rw [X.K]; exact k3) hps k1 k2 c2 c1 rm sz hr sm rv fun env s₁ I=>?_
  obtain ⟨k1',k2'⟩:=I.stk hk
  refine wpAny_mono ((compX_ok X GK TR HC HN hrn HM hq I.O I.sc I.fr 200).ss _ _ q hxs ⟨_,hp⟩ (fun σ=>Q .none σ.hp) Q X' (A.deeper env) s₁ am l c3 I.rm (Around.frames_deeper hl) k1' k2' I.R) (fun fl s' z=>?_) fun e s' z=>I.leave hl hk z
  cases fl with
  | next=>exact I.ends z (.inr ⟨rfl,rfl⟩)
  | ret v=>exact I.ends z (.inl rfl)
  | brk=>exact z.elim
  | cont=>exact z.elim
theorem callX_ok (X:CxOk cx G) (GK:GG G g) (TR:∃ p loose mg mb,TopRead p loose mg mb G.base) (hxf:∀ f ∈ XF,∃ fn,g.fn f = some fn ∧ xfS NR XF fn.body = true) (hq:∀ r,Quiet (callWp g r) NR):∀ r,CallMix G (callWp g r) XF r
  | 0=>fun zz zz zz zz zz zz zz zz zz zz zz zz zz h=>h.elim
  | 1=>stepX_ok hfn X GK TR hxf (r:=0) bot_ok (rn:=0) bot_ok (.inr fun zz zz zz zz zz h=>h) (fun zz zz zz zz zz zz zz zz zz zz zz zz zz h=>h.elim) (hq 0)
  | r + 2=>stepX_ok hfn X GK TR hxf (r:=r + 1) (call_ok X GK hfn (r + 1)) (rn:=r) (call_ok X GK hfn r) (.inl rfl) (callX_ok X GK TR hxf hq (r + 1)) (hq (r + 1))
omit hfn in
noncomputable def Raises (G:Glb) (f:Nat) (vs:List V) (hp:Hp) (X:Nat → Hp → Prop) (r:Nat):Prop:=∀ (a:Addr) (A:Around) (s:Shared) (am:AM) (vals:List Value) (l:List Env),G.fnA f = some a → RoomC noX A r → A.frames = some l → Stk G am s.heap l → G.base.objs.size ≤ s.heap.objs.size →
  HR G am s.heap hp → Same G s → RVs G.ws am s.heap vs vals →
  codeAny (model G.prog G.w) A (.call (.ref a) ⟨vals,[]⟩) (fun res s'=>match res with | .ok _=>False | .error e=>Fly G l s am X e s') s
omit hfn in
theorem raises_mix {f:Nat} {vs:List V} {hp:Hp} {X:Nat → Hp → Prop} (H:CallMix G C XF r) (hx:f ∈ XF) (h:C f vs hp (fun zz zz=>False) X):Raises G f vs hp X r:=fun a A s am vals l hf rm hl hk sz hr sm rv=>by
  refine codeAny_mono (H f a vs hp _ X A s am vals l hx hf h rm hl hk sz hr sm rv) fun res s' z=>?_
  rcases res with e | (_ | _ | _ | v)
  · exact z
  · exact z.elim
  · exact z.elim
  · exact z.elim
  · obtain ⟨_,_,_,z,_⟩:=z; exact z
theorem raises_first (X:CxOk cx G) (GK:GG G g) (TR:∃ p loose mg mb,TopRead p loose mg mb G.base) (HC:CallOk G C r) (HN:CallOk G N rn) (hrn:r = rn + 1 ∨ ∀ f vs hp Q X,¬ N f vs hp Q X) (HM:CallMix G C XF r) (hq:Quiet C NR) {f:Nat} {fn:Fn} {s1 s2:S} {vs:List V} {hp:Hp} {X':Nat → Hp → Prop} (hg:g.fn f = some fn) (hb:fn.body = .seq s1 s2) (hx:xfS NR XF s1 = true) (c1:vs.length = fn.np) (c2:fn.np ≤ fn.n)
    (c3:wpS g C N s1 ⟨vs.map some ++ List.replicate (fn.n - fn.np) none,hp⟩ (fun zz=>False) (fun zz zz=>False) X'):Raises G f vs hp X' (r + 1):=fun a A s am vals l hf rm hl hk sz hr sm rv=>by
  obtain ⟨a',h1,h2⟩:=hfn f fn hg
  have:=X.fn _ _ h1
  rw [hf] at this; cases this
  obtain ⟨⟨ho,k3⟩,hps,k1,k2,q,e⟩:=comp_fn h2
  subst e
  cases hb
  refine frame_in GK (by rw [X.K]; exact ho) (by rw [X.K]; exact k3) hps k1 k2 c2 c1 rm sz hr sm rv fun env s₁ I=>?_
  obtain ⟨k1',k2'⟩:=I.stk hk
  obtain ⟨st,sts,eb,h1⟩:=comps_head (n:=199) q
  rw [eb]
  refine wpAny_execs_cons (wpAny_mono ((compX_ok X GK TR HC HN hrn HM hq I.O I.sc I.fr 199).s _ _ h1 hx ⟨_,hp⟩ _ _ X' (A.deeper env) s₁ am l c3 I.rm (Around.frames_deeper hl) k1' k2' I.R) (fun fl s' z=>?_) fun e s' z=>I.leave hl hk z)
  cases fl with
  | next=>obtain ⟨_,_,_,z,_⟩:=z; exact z.elim
  | ret v=>obtain ⟨_,_,_,z,_⟩:=z; exact z.elim
  | brk=>exact z.elim
  | cont=>exact z.elim
end
end Mine
end
noncomputable section
namespace Mine
open PySem PySem.W PyProof.Rows
section
variable {G:Glb} {g:Genv} {C N:Oracle} {env:Env} {names:List (Str × NameKind)} {r:Nat}
theorem raiseE (GK : GG G g) (O : EnvOk env names) (hf : env.frame = some env.locals) {x : Str} {p pos : Pos} {es : List PySem.Expr} {is : List Mine.E} {f : Nat} {a : Addr} (hk : env.kindOf x = some .globalImplicit) (hd : (x == ("__debug__" : Str)) = false) (hfa : G.fnA f = some a)
    (e:nsIn G.K mainGlobals x = some (some (.ref a))) (hn:es.all notStar = true) (h1:SndEs G g C N env names r es is) {loc:Locs} {hp:Hp} {X:Nat → Hp → Prop} {A:Around} {s:Shared} {am:AM} {outer:List Env} (h:wpEs g C N loc is hp (fun vs h=>Raises G f vs h X r) noX) (rm:Room noX A r) (hfr:A.frames = some (env :: outer)) (hs:Stk G am s.heap outer) (R:Rel G env names s am loc hp) :
    wpAny (model G.prog G.w) A (eval (.Call (.Name x p) es [] pos) env) (fun zz zz=>False) (Fly G (env :: outer) s am X) s:=by
  rw [eval_Call_plain ⟨x,p,rfl⟩]
  refine wpAny_bind (snd_global GK O R hk hd e ?_)
  refine callWith_es (P:=fun h=>∀ b o,G.base.get? b = some o → h.get? b = some o) hn (fun hh kb=>keeps_K (GK.fnKeep f a hfa) hh (GK.ok.x.keeps kb)) (wpAny_mono (h1 pos loc hp _ noX A s am h rm R) (fun vals s1 z=>?_) fun zz zz z=>z.no.elim)
  obtain ⟨zl,vs,p1,am1,z1,z2,z3,z4,z5⟩:=z
  have R1:=R.step z4 z3 z5
  have k1:=R1.stk hf O.kind (hs.step (own:=[]) z4 fun zz zz=>List.not_mem_nil)
  refine ⟨z3.base,wpAny_call (codeAny_mono (z1 a A s1 am1 vals _ hfa rm.c hfr k1 R1.size z3 z5 z2) fun res s' y=>?_)⟩
  rcases res with e | v
  · exact y.back z4 fun b hb=>((R.stk hf O.kind hs).mem hb).2.1
  · exact y.elim
theorem Fly.leave {s s3 s':Shared} {am:AM} {l:List Env} {X:Nat → Hp → Prop} {e:Value} {A:Around} {E:Value → Shared → Prop} {L:Addr} (hl:A.frames = some l) (hf:env.frame = some L) (hn:s.heap.get? L = none) (kp:∀ b o,s.heap.get? b = some o → s3.heap.get? b = some o) (z:Fly G (env :: l) s3 am X e s') :
    wpAny (model G.prog G.w) (A.deeper env) (leaving env e) (fun zz s''=>Fly G l s am X e s'') E s':=by
  obtain ⟨a,w,Ca,B,a0,hp',am',rfl,x2,x3,x4,x5,x6,x7,x8⟩:=z
  have ef:frs (env :: l) = L :: frs l:=by unfold frs; rw [List.filterMap_cons,hf]
  rw [ef] at x6 x7
  refine flt_leave (Around.frames_deeper hl) hf (.fly a0 x4) fun h' a0 fl up=>⟨a,w,Ca,B,a0,hp',am',rfl,x2,x3,fl,x5,?_,?_,⟨x8.gens,x8.os⟩⟩
  · obtain ⟨ll,e,f2⟩:=x6.ext
    have none_of:∀ b,s3.heap.get? b = none → s.heap.get? b = none:=fun b z=>by
      cases q:s.heap.get? b with
      | none=>rfl
      | some o=>rw [kp _ _ q] at z; cases z
    refine ⟨fun b o e n1 n2=>x6.keep b o (kp b o e) (fun q=>?_) n2,fun b i t=>x6.tup b i (t.keeps kp),⟨ll,e,fun p hp1=>⟨none_of _ (f2 p hp1).1,none_of _ (f2 p hp1).2⟩⟩⟩
    rcases List.mem_cons.mp q with rfl | q
    · rw [hn] at e; cases e
    · exact n1 q
  · exact Up.then (fun b hb o e n=>x7 b (.tail _ hb) o (kp b o e) n) up
theorem lam_in (GK:GG G g) {fo c c':Addr} {name qual y:Str} {params:Arguments} {body:PySem.Expr} {scope:Scope} {pm ctv:Value} {s:Shared} {am:AM} {hp:Hp} {A:Around} {v:V} {val:Value} {Rr:Result → Shared → Prop}
    (hpp:plainPs params = some []) (hs:slotsOk [(y,.free)] scope = true) (hk:scope.kind = .function) (hco:scope.isCoroutine = false) (hgen:scope.isGenerator = false) (hcell:∀ x ∈ scope.names,x.2 ≠ .cell)
    (ho:s.heap.get? fo = some (kla_obj name qual params body scope [(y,c)] pm c' ctv)) (hcd:s.heap.CodeRec (.ref c') qual) (rm:RoomC noX A (r + 1)) (sz:G.base.objs.size ≤ s.heap.objs.size) (hr:HR G am s.heap hp) (sm:Same G s) (hc:s.heap.IsCell c (some val)) (hcm:c ∉ am.muts) (hcb:G.base.get? c = none) (rv:RV G.ws am s.heap v val)
    (k:∀ env s3,EnvOk env [(y,.free)] → env.scope = scope → env.frame = some env.locals → s.heap.get? env.locals = none → (∀ b o,s.heap.get? b = some o → s3.heap.get? b = some o) → Rel G env [(y,.free)] s3 am [some v] hp → Room noX (A.deeper env) r →
      wpAny (model G.prog G.w) (A.deeper env) (eval body env) (fun v s'=>Rr (.ok (.ret v)) s') (fun e' s'=>wpAny (model G.prog G.w) (A.deeper env) (leaving env e') (fun zz s''=>Rr (.error e') s'') (fun e'' s''=>Rr (.error e'') s'') s') s3) :
    codeAny (model G.prog G.w) A (.call (.ref fo) ⟨[],[]⟩) Rr s:=by
  refine kla_callFunE (body:=body) (by have:=rm.depth; (first | lia | omega)) ho rfl hco hgen rfl hcd ?_
  rw [bindArgs_plain (fd:=kla_fn name qual params body scope [(y,c)] pm (.ref c') ctv) (vals:=[]) hpp rfl rfl .nil]
  refine wpAny_pure (wpAny_newFunctionEnv hcell (fun zz h=>nomatch h) (fun h₁ hns hsb=>?_) hk)
  have kp:∀ b o,s.heap.get? b = some o → h₁.get? b = some o:=fun b o e=>hsb.extBut b o (Nat.ne_of_lt (Heap.lt_size e)) (Heap.get?_push_of_some _ e)
  refine ⟨(GK.ok.nolimit.keeps hr.base).keeps kp,?_⟩
  show codeAny _ _ (.expr body (envX qual scope s.heap.objs.size fo (.ref c') [(y,c)])) _ _
  have O:EnvOk (envX qual scope s.heap.objs.size fo (.ref c') [(y,c)]) [(y,.free)]:=envOk_of hs hk rfl rfl
  obtain ⟨oc,hoc,hod⟩:=hc
  have fresh:s.heap.get? s.heap.objs.size = none:=get_none_of_size ..
  have hr1:HR G am h₁ hp:=hr.keepAll kp
  have nc:c ≠ s.heap.objs.size:=Nat.ne_of_lt (Heap.lt_size hoc)
  refine kla_codeExpr (k (envX qual scope s.heap.objs.size fo (.ref c') [(y,c)]) { s with heap:=h₁,toks:=s.toks + 0 } O rfl rfl fresh kp ⟨hr1,⟨_,⟨hns,hr1.base,sz⟩,?_⟩,?_,?_,?_,?_,rfl,⟨sm.gens,sm.os⟩⟩ ?_)
  · intro i u e
    cases i with
    | succ i=>cases e
    | zero=>
      cases e
      refine ⟨y,.free,val,rfl,rv.mono (fun zz zz t=>t.keeps kp) (fun zz zz e=>e),c,?_,oc,kp _ _ hoc,hod⟩
      show List.lookup y [(y,c)] = some c
      rw [List.lookup_cons,beq_self_eq_true]
  · intro b hb
    rcases List.mem_cons.mp hb with rfl | hb
    · refine ⟨fun hm=>?_,?_⟩
      · obtain ⟨p,hp,e⟩:=List.mem_map.mp hm
        obtain ⟨-,ob,hb,-⟩:=hr.live hp
        rw [e] at hb
        exact absurd (fresh.symm.trans hb) (fun z=>nomatch z)
      · cases q:G.base.get? s.heap.objs.size with
        | none=>rfl
        | some o=>have:=hr.base _ _ q; rw [fresh] at this; cases this
    · rcases List.mem_cons.mp hb with rfl | hb
      · exact ⟨hcm,hcb⟩
      · cases hb
  · intro x hx
    rcases List.mem_cons.mp hx with e | e
    · cases e
    · cases e
  · exact List.pairwise_singleton ..
  · intro q hq
    rcases List.mem_cons.mp hq with rfl | hq
    · exact ⟨nc,by show (h₁.get? c).isSome = true; rw [kp _ _ hoc]; rfl⟩
    · cases hq
  · obtain ⟨l,hl⟩:=rm.some_
    exact ⟨by show A.depth + 1 + r + 101 ≤ _; have:=rm.depth; (first | lia | omega),by show A.units + 3 + 10 * r + 300 ≤ _; have:=rm.units; (first | lia | omega),rm.handled,
      ⟨_,l,by show A.frames.map _ = _; rw [hl]; rfl,hgen,hco,rfl,rfl⟩,rm.noX⟩
end
end Mine
end
noncomputable section
namespace Mine
open PySem PySem.W PyProof.Rows PySem.Calls Builtin Builtin.ObjectAttr Builtin.Getset_descriptor
section
variable {prog:Program} {w:World} {A:Around} {E:Value → Shared → Prop} {s:Shared} {K:Frag} {x C:Addr}
theorem cls_get {R : Result → Shared → Prop} {tp : Value} (X : K.In s.heap) (L0 : Looks (model prog w) s.heap (typeOf (.ref x)) (.ref C)) (hm : mroIn K C (.type "object") = some true)
    (h : R (.ok (.ret (.ref C))) s) : codeAny (model prog w) A (.call (.builtin "getset_descriptor.__get__") ⟨[.builtin "object.__class__", .ref x, tp], []⟩) R s := by
  obtain ⟨hh,g,dr,t,os⟩:=s
  have L1:=looks_mroIn (M:=model prog w) X hm
  refine codeAny_call_builtin KF.slot_gs.plain KF.entry_gs (KF.slot_gs.check _ _ _ _ _ _ _ _ KF.type_class (KF.args_gs _ _ _) ?_)
  unfold Builtin.«getset_descriptor.__get__» descrGet
  rw [dga_obj]
  refine wpAny_bind (wpAny_pure ?_)
  unfold descrGetter descrCheckInstance descrNameAndClass isInstance
  simp only [KF.owner_class]
  repeat lk
  refine ⟨Code.quiet_builtin _ (by decide +kernel),codeAny_builtin KF.entry_class ?_⟩
  unfold Builtin.«object.__class__» shownTypeOf
  repeat lk
  exact h
theorem exc_class {Q : Option Value → Shared → Prop} (X : K.In s.heap) (L0 : Looks (model prog w) s.heap (typeOf (.ref x)) (.ref C)) (hga : findIn K (.ref C) "__getattribute__" = some (some (.builtin "BaseException.__getattribute__"))) (hgt : findIn K (.ref C) "__getattr__" = some none)
    (hcl : findIn K (.ref C) "__class__" = some (some (.builtin "object.__class__"))) (hn : specialIn K (.builtin "object.__class__") "__get__" = some (some (.builtin "getset_descriptor.__get__"))) (htk : takesIn K (.builtin "object.__class__") = some true) (hm : mroIn K C (.type "object") = some true) (hmb : mroIn K C (.type "BaseException") = some true)
    (h : Q (some (.ref C)) { s with toks := s.toks + 1 }) : wpAny (model prog w) A (getAttr? (.ref x) "__class__") Q E s := by
  obtain ⟨hh,g,d,t,os⟩:=s
  have L1:=looks_findIn (M:=model prog w) X hga
  have L2:=looks_findIn (M:=model prog w) X hgt
  have L3:=looks_findIn (M:=model prog w) X hcl
  have L4:=looks_specialIn (M:=model prog w) X hn
  have L5:=looks_takesIn (M:=model prog w) X htk
  have L6:=looks_mroIn (M:=model prog w) X hmb
  unfold getAttr? getAttrBy? getAttrBy
  refine wpAny_bind (wpAny_mkText (wpAny_bind (wpAny_attempt (wpAny_holding (wpAny_bind (L0.at (wpAny_bind (L1.at ?_))))))))
  show wpAny _ _ (getAttrByItsOwn _ _ _ _ _ _) _ _ _
  unfold getAttrByItsOwn
  refine wpAny_bind (L2.at ?_)
  refine wpAny_bind (wpAny_attempt (wpAny_holding ?_))
  show wpAny _ _ (boundAndCalled _ _ _) _ _ _
  unfold boundAndCalled
  refine wpAny_bind (wpAny_of_eq (F.attr_ValueError.ga.bind (.ref x)) ?_)
  refine wpAny_call (codeAny_call_builtin F.attr_ValueError.ga.plain F.entry_bexc_ga ?_)
  have hk : builtinKind "BaseException.__getattribute__" = some .slot := by decide +kernel
  have hsplit : splitId "BaseException.__getattribute__" = some ("BaseException", "__getattribute__") := by decide +kernel
  have ha := F.args_bexc_ga (.ref x) (.str "__class__" t)
  simp only [checkBuiltinCall,hk,hsplit]
  refine wpAny_bind ?_
  unfold isInstance
  repeat lk
  show wpAny _ _ (run (.call (.builtin "getset_descriptor.__get__") ⟨[.builtin "object.__class__", .ref x, .ref C], []⟩)) _ _ _
  refine wpAny_run (cls_get (s:=⟨hh,g,d,t + 1,os⟩) X L0 hm ?_)
  exact wpAny_pure (wpAny_pure (wpAny_pure (wpAny_pure h)))
noncomputable def ExcAt (a C:Addr) (h:Heap):Prop:=∃ o,h.get? a = some o ∧ o.cls = .ref C
theorem ExcAt.ty {a C:Addr} {h:Heap} (e:ExcAt a C h) {M:Model}:Looks M h (typeOf (.ref a)) (.ref C):=by
  obtain ⟨o,h1,h2⟩:=e
  exact h2 ▸ (Looks.ld h1).andThen .now
set_option tactic.hygienic true in
theorem kitx_exc {a:Addr} (h:excKit K C = true):KitX K (.ref a) (.ref C) (ExcAt a C):=by
  simp only [excKit,Bool.and_eq_true,beq_iff_eq] at h
  obtain ⟨⟨⟨⟨⟨⟨⟨h0,h1⟩,h2⟩,h3⟩,h4⟩,h5⟩,h6⟩,h7⟩:=h
  unfold clsIn at h0
  split at h0
  · rename_i c' d' cd' sl' ho
    refine ⟨fun zz zz zz e=>e.ty,fun zz zz X zz A' Q' E' s' k q=>?_,fun h tp dd its n sl X htp=>Bool.eq_false_iff.mpr fun q=>?_,fun X e k=>exc_class X (ExcAt.ty e) h1 h2 h3 h4 h5 h6 h7 k⟩
    · unfold isType loadHead
      exact wpAny_bind (wpAny_loadPart (k _ _ (X _ _ ho)) (wpAny_pure q))
    · have e:C = tp:=Value.ref.inj (beq_iff_eq.mp q)
      subst e
      have z:=(X _ _ ho).symm.trans htp
      cases z
  · cases h0
structure Hx (G:Glb) (env:Env) (h:Heap) (m:Str → Option Value) (a C:Addr):Prop where
  ns:h.Ns env.locals m
  base:∀ b o,G.base.get? b = some o → h.get? b = some o
  exc:ExcAt a C h
end
section
variable {G:Glb} {g:Genv} {env:Env} {names:List (Str × NameKind)} {A:Around} {E:Value → Shared → Prop} {s:Shared} {m:Str → Option Value} {a C:Addr} {Q:Value → Shared → Prop}
set_option tactic.hygienic true in
theorem ld_clsV (GK:GG G g) (O:EnvOk env names) {c:Str} {v:Value} {p:Pos} (hb:∀ b o,G.base.get? b = some o → s.heap.get? b = some o) (hg:isGl env.scope c = true) (hv:clsV G.K c = some v) (h:Q v s):wpAny (model G.prog G.w) A (eval (.Name c p) env) Q E s:=by
  obtain ⟨hk,hd⟩:=isGl_ok rfl hg
  obtain ⟨mg,hmg⟩:=GK.glob
  unfold clsV at hv
  split at hv
  · rename_i v' e
    cases hv
    exact Calls.Name_function_global O.kind hk (Calls.loadGlobal_global (mg:=mg) (by rw [O.glob]; exact hmg.keeps hb) (mg_of GK.ok.x hmg e) h) hd
  · rename_i e
    split at hv
    · cases hv
    · rename_i hn
      obtain ⟨mb,hmb,hb'⟩:=GK.bi
      exact Calls.Name_function_global O.kind hk (Calls.loadGlobal_builtin (mg:=mg) (mb:=mb) (by rw [O.glob]; exact hmg.keeps hb) (mg_none_of GK.ok.x hmg e) (by rw [O.bi]; exact hmb.keeps hb) ((hb' c hn).trans hv) h) hd
  · cases hv
theorem ld_loc (O:EnvOk env names) {x:Str} {i:Nat} {v:Value} {p:Pos} (hns:s.heap.Ns env.locals m) (hx:names[i]? = some (x,.local)) (hm:m x = some v) (h:Q v s):wpAny (model G.prog G.w) A (eval (.Name x p) env) Q E s:=by
  obtain ⟨o1,_,o3,_⟩:=O.kinds i x _ hx
  exact wpAny_Name (wpAny_loadName_local O.kind o1 hns hm h) o3
theorem isi_exc (GK:GG G g) (O:EnvOk env names) (H:Hx G env s.heap m a C) (hk:excKit G.K C = true) {e c:Str} {i:Nat} {v:Value} {b:Bool} {p1 p2 p3 p4:Pos} (hx:names[i]? = some (e,.local)) (hm:m e = some (.ref a)) (hg:isGl env.scope c = true) (hv:clsV G.K c = some v) (hb:kitOne G.K (.ref C) v = some b)
    (hgi : isGl env.scope "isinstance" = true) (hni : nsIn G.K mainGlobals "isinstance" = some none) (h : ∀ tk, Q (.bool b) { s with toks := tk }) :
    wpAny (model G.prog G.w) A (eval (.Call (.Name "isinstance" p1) [.Name e p2, .Name c p3] [] p4) env) Q E s := by
  rw [eval_Call_plain ⟨_,_,rfl⟩]
  refine wpAny_bind (ld_clsV GK O H.base hgi (v := .builtin "isinstance") (by unfold clsV; rw [hni]; exact (if_neg (by decide)).trans (by decide +kernel)) ?_)
  refine callWith_es (P:=fun zz=>True) rfl (fun zz zz=>keeper_builtin) ?_
  rw [starEach_cons rfl,starEach_cons rfl]
  refine Calls.spliced_cons (ld_loc O H.ns hx hm (Calls.spliced_cons (ld_clsV GK O H.base hg hv (Calls.spliced_nil ⟨trivial,?_⟩))))
  exact kia_one (kitx_exc hk) (GK.ok.x.keeps H.base) H.exc hb (fun z=>nomatch z) h
end
end Mine
end
noncomputable section
namespace Mine
open PySem PySem.W PyProof.Rows
section
variable {cx:Cx} {G:Glb} {g:Genv} {env:Env} {names:List (Str × NameKind)} {A:Around} {E:Value → Shared → Prop} {a C:Addr} {lm:Str → Option Str} {e:Str} {m:Str → Option Value} {i:Nat}
theorem mul01 (w:Str) (b:Bool):MulOk w (if b then 1 else 0) ∧ Txt.mul w (if b then 1 else 0) = (if b then w else Str.empty):=by
  cases b with
  | true=>exact ⟨⟨by decide,fun zz h=>(by simp at h),fun zz h=>(by simp at h)⟩,by simp [Txt.mul]⟩
  | false=>exact ⟨⟨by decide,fun h=>absurd (by decide) h,fun h=>absurd (by decide) h⟩,rfl⟩
theorem hx_ok (X:CxOk cx G) (GK:GG G g) (O:EnvOk env names) (hk:excKit G.K C = true) (hx:names[i]? = some (e,NameKind.local)) (hm:m e = some (.ref a)) (hl:∀ x w,lm x = some w → ∃ (j:Nat) (t:Tok),names[j]? = some (x,NameKind.local) ∧ m x = some (.str w t)) {x:PySem.Expr} {u:HX} (R:HxR cx env.scope e x u) :
    ∀ {s:Shared} {w:Str} {Q:Value → Shared → Prop},Hx G env s.heap m a C → hxV (isinOf G.K C) lm u = some w → (∀ t tk,Q (.str w t) { s with toks:=tk }) → wpAny (model G.prog G.w) A (eval x env) Q E s:=by
  induction R with
  | name=>
    intro s w Q H hv k
    obtain ⟨j,t,h1,h2⟩:=hl _ _ hv
    exact ld_loc O H.ns h1 h2 (k t s.toks)
  | add r1 r2 i1 i2=>
    intro s w Q H hv k
    obtain ⟨y,h1,hv⟩:=bind_some (show (hxV _ _ _).bind _ = some w from hv)
    obtain ⟨z,h2,hv⟩:=bind_some hv
    obtain ⟨h3,hv⟩:=if_some hv
    cases hv
    exact wpAny_BinOp (i1 H h1 fun t tk=>i2 (s:={ s with toks:=tk }) H h2 fun t' tk'=>SB.add (fun t2 k2=>k t2 k2) (nlt h3 (by decide)))
  | kind g1 g2 r=>
    intro s w Q H hv k
    cases r with
    | mk g3 g4 g5=>
      obtain ⟨b,h1,rfl⟩:=map_some' (show (isinOf G.K C _).map _ = some w from hv)
      obtain ⟨v,h2,h3⟩:=bind_some h1
      refine wpAny_BinOp (wpAny_Constant_str ?_)
      rw [eval_Call_plain ⟨_,_,rfl⟩]
      refine wpAny_bind (ld_clsV GK O H.base g1 (v := .type "int") (by unfold clsV; rw [X.K, g2]; exact (if_neg (by decide)).trans (by decide +kernel)) ?_)
      refine callWith_es (P:=fun zz=>True) rfl (fun zz zz=>keeper_type) ?_
      rw [starEach_cons rfl]
      refine Calls.spliced_cons (isi_exc (s:={ s with toks:=s.toks + 1 }) GK O H hk hx hm g5 h2 h3 g3 (by rw [X.K]; exact g4) fun tk=>Calls.spliced_nil ⟨trivial,?_⟩)
      refine call_int_bool ?_
      obtain ⟨m1,m2⟩:=mul01 _ b
      refine SB.mul m1 fun t' k'=>?_
      rw [m2]
      exact k _ _
end
end Mine
end
noncomputable section
namespace Mine
open PySem PySem.W PyProof.Rows
end Mine
end
noncomputable section
namespace Mine
open PySem PySem.W PyProof.Rows
structure OkC (K:Frag) (p:CaughtP) (mv:Value) (d:Str) (C:Addr):Prop where
  kit:excKit K C = true
  mat:exmOne K (.ref C) mv = some true
  kin:kindsC K p C = some d
  ve:isinOf K C p.ve = some true
section
variable {cx:Cx} {G:Glb} {g:Genv} {env:Env} {names:List (Str × NameKind)} {A:Around} {E:Value → Shared → Prop} {a C:Addr} {p:CaughtP} {m:Str → Option Value}
theorem hx_plain {sc:Scope} {e:Str} {x:PySem.Expr} {u:HX} (R:HxR cx sc e x u):notComp x = true:=by cases R <;> rfl
theorem SameBut.base {h h':Heap} {L:Addr} (hb:∀ b o,G.base.get? b = some o → h.get? b = some o) (hL:G.base.get? L = none) (sb:Heap.SameBut L h h'):∀ b o,G.base.get? b = some o → h'.get? b = some o:=fun b o e=>by
  have ne:b ≠ L:=fun q=>by rw [q,hL] at e; cases e
  rw [sb.2 b ne]; exact hb b o e
theorem Hx.store {h h':Heap} {x:Str} {v:Value} (H:Hx G env h m a C) (hL:G.base.get? env.locals = none) (ha:a ≠ env.locals) (ns:h'.Ns env.locals (fun y=>if y = x then some v else m y)) (sb:Heap.SameBut env.locals h h'):Hx G env h' (fun y=>if y = x then some v else m y) a C:=by
  obtain ⟨o,h1,h2⟩:=H.exc
  exact ⟨ns,SameBut.base H.base hL sb,o,(sb.2 a ha).trans h1,h2⟩
theorem suite_ok (X:CxOk cx G) (GK:GG G g) (O:EnvOk env names) (NP:NamesP names p) {suite:List Stmt} (S:SuiteR cx env.scope p suite) {mv:Value} {d:Str} (ok:OkC G.K p mv d C) (hL:G.base.get? env.locals = none) (ha:a ≠ env.locals) (he:m p.exn = some (.ref a)) {td:Tok} (hd:m p.due = some (.str d td)) {s:Shared} {Q:Flow → Shared → Prop}
    (H:Hx G env s.heap m a C) (k:∀ h' tk m',h'.Ns env.locals m' → Heap.SameBut env.locals s.heap h' → Q (.ret (.bool true)) { s with heap:=h',toks:=tk }):wpAny (model G.prog G.w) A (execs suite env) Q E s:=by
  obtain ⟨w1,k1,k2⟩:=bind_some ok.kin
  obtain ⟨ie,hie⟩:=NP.exn
  obtain ⟨ik,hik⟩:=NP.kinds
  obtain ⟨id',hid⟩:=NP.due
  have hp:(env.scope.kind == .class || (env.scope.kind == .module && env.locals != env.globals)) = false:=by rw [O.kind]; rfl
  cases S with
  | mk r1 r2 r3=>
    refine wpAny_execs_cons (wpAny_Assign_Name (hx_ok (lm:=fun zz=>none) X GK O ok.kit hie he (fun x w z=>nomatch z) r1 H k1 fun t tk=>?_) (swaps_plain (hx_plain r1) _ _ _))
    refine wpAny_storeName_local (O.kinds _ _ _ hik).1 (s:={ s with toks:=tk }) H.ns (fun h1 n1 b1=>?_) hp
    have H1:=H.store hL ha n1 b1
    have he1:(fun y=>if y = p.kinds then some (Value.str w1 t) else m y) p.exn = some (.ref a):=(if_neg NP.ne3).trans he
    refine wpAny_execs_cons (wpAny_Assign_Name (hx_ok (lm:=fun x=>if x = p.kinds then some w1 else none) X GK O ok.kit hie he1 (fun x w z=>?_) r2 H1 k2 fun t2 tk2=>?_) (swaps_plain (hx_plain r2) _ _ _))
    · by_cases q:x = p.kinds
      · rw [if_pos q] at z
        cases z
        exact ⟨ik,t,q ▸ hik,if_pos q⟩
      · rw [if_neg q] at z; cases z
    · refine wpAny_storeName_local (O.kinds _ _ _ hik).1 (s:=⟨h1,s.gens,s.drawn,tk2,s.os⟩) H1.ns (fun h2 n2 b2=>?_) hp
      have H2:=H1.store hL ha n2 b2
      have sb:=b1.trans b2
      have he2:(fun y=>if y = p.kinds then some (Value.str d t2) else (fun y=>if y = p.kinds then some (Value.str w1 t) else m y) y) p.exn = some (.ref a):=(if_neg NP.ne3).trans he1
      have hd2:(fun y=>if y = p.kinds then some (Value.str d t2) else (fun y=>if y = p.kinds then some (Value.str w1 t) else m y) y) p.due = some (.str d td):=(if_neg NP.ne2).trans ((if_neg NP.ne2).trans hd)
      refine wpAny_execs_cons (wpAny_Return_some (wpAny_And2 (wpAny_Compare1 (ld_loc O n2 hik (if_pos rfl) (ld_loc O n2 hid hd2 (P.eq_str ?_))) rfl)))
      rw [beq_self_eq_true]
      refine wpAny_truthy_bool ?_
      rw [if_pos rfl]
      cases r3 with
      | mk g1 g2 g3=>
        obtain ⟨v,h3,h4⟩:=bind_some ok.ve
        exact isi_exc GK O H2 ok.kit hie he2 g3 h3 h4 g1 (by rw [X.K]; exact g2) fun tk=>k h2 tk _ n2 sb
end
end Mine
end
noncomputable section
namespace Mine
open PySem PySem.W PyProof.Rows
structure AftU (fr:List Addr) (h:Heap) (am:AM) (h':Heap) (am':AM):Prop where
  keep:∀ b o,h.get? b = some o → b ∉ fr → b ∉ am.muts → h'.get? b = some o
  up:Up fr h h'
  tup:TupKept h h'
  ext:∃ l,am' = am ++ l ∧ ∀ p ∈ l,h.get? p.1 = none ∧ h.get? p.2 = none
inductive AftC (G:Glb) (l:List Env) (s:Shared) (am:AM) (K:Hp → Prop) (s':Shared):Prop
  | mk (hp':Hp) (am':AM):K hp' → HR G am' s'.heap hp' → AftU (frs l) s.heap am s'.heap am' → Same G s' → AftC G l s am K s'
section
variable {cx:Cx} {G:Glb} {g:Genv} {r:Nat} {p:CaughtP}
theorem handler_ok (X:CxOk cx G) (GK:GG G g) {env:Env} {names:List (Str × NameKind)} {A:Around} {E:Value → Shared → Prop} {l:List Env} {a C:Addr} {a0:Value} {B:Heap} {m:Str → Option Value} (O:EnvOk env names) (hf:env.frame = some env.locals) (NP:NamesP names p) {suite:List Stmt} (S:SuiteR cx env.scope p suite) {mv:Value} {d:Str} (ok:OkC G.K p mv d C) (hmg:isGl env.scope p.mill = true) (hmv:clsV G.K p.mill = some mv)
    (hfr:A.frames = some (env :: l)) {s:Shared} (fl:Heap.FlyingW B (env :: l) a (.ref C) a0 s.heap) (hb:∀ b o,G.base.get? b = some o → B.get? b = some o) (ns:s.heap.Ns env.locals m) {td:Tok} (hd:m p.due = some (.str d td)) {p4 p18:Pos} {Q:Flow → Shared → Prop}
    (k:∀ h1 h2 tk,B.StaysIn h1 → s.heap.UpToSlots h1 → Heap.SameBut env.locals h1 h2 → Q (.ret (.bool true)) { s with heap:=h2,toks:=tk }) :
    wpAny (model G.prog G.w) A (noteFrame (.ref a) env) (fun zz s₂=>wpAny (model G.prog G.w) A (setFlight (.ref a) none) (fun zz s₃=>wpAny (model G.prog G.w) A (handleBy (.ref a) env [.ExceptHandler (some (.Name p.mill p4)) (some p.exn) suite p18]) Q E s₃) E s₂) E s:=by
  have hL:B.get? env.locals = none:=by
    refine of_P fun P hP=>?_
    obtain ⟨_,⟨L',_,hf',hn',_⟩,_⟩:=fl.2.2.1
    refine hP ?_
    rw [hf] at hf'
    cases hf'
    exact hn'
  have hLb:G.base.get? env.locals = none:=by
    cases q:G.base.get? env.locals with
    | none=>rfl
    | some o=>have:=hb _ _ q; rw [hL] at this; cases this
  obtain ⟨ie,hie⟩:=NP.exn
  have kie:=(O.kinds _ _ _ hie).1
  have hp:(env.scope.kind == .class || (env.scope.kind == .module && env.locals != env.globals)) = false:=by rw [O.kind]; rfl
  refine wpAny_looks_onW hfr hf fl fun h4 held u4=>wpAny_landsW held fun h5 fl5 u5=>?_
  have b5:∀ b o,G.base.get? b = some o → h5.get? b = some o:=fun b o e=>fl5.1 b o (hb b o e)
  obtain ⟨ob,hob,hobc⟩:=fl5.there
  refine wpAny_handleBy_cons (codeAny_handlers_test (ld_clsV GK O b5 hmg hmv ?_)) (by intro q; cases q)
  refine Looks.here (exm_one (GK.ok.x.keeps b5) (ExcAt.ty ⟨ob,hob,hobc⟩) ok.mat) ?_
  obtain ⟨b0,rest,rfl⟩:∃ b0 rest,suite = b0 :: rest:=by cases S; exact ⟨_,_,rfl⟩
  refine codeAny_handlers_suite_as (lands_againW fl5 fun h6 fl6 u6=>?_)
  have ns6:=u6.ns (u5.ns (u4.ns ns))
  have uu:=(u4.trans u5).trans u6
  have ha:a ≠ env.locals:=fun q=>by
    obtain ⟨o,es,ep,e1,e2,_⟩:=ns6
    obtain ⟨oe,vs,e3,_,e4,_⟩:=fl6.first
    rw [q,e1] at e3
    cases e3
    rw [e2] at e4
    cases e4
  refine wpAny_storeName_local kie (s:={ s with heap:=h6 }) ns6 (fun h7 n7 b7=>?_) hp
  obtain ⟨oe,hoe,hoc⟩:=fl6.there
  have H:Hx G env h7 (fun y=>if y = p.exn then some (.ref a) else m y) a C:=⟨n7,SameBut.base (fun b o e=>fl6.1 b o (hb b o e)) hLb b7,oe,(b7.2 a ha).trans hoe,hoc⟩
  refine suite_ok X GK O NP S ok hLb ha (if_pos rfl) ((if_neg NP.ne1).trans hd) (s:={ s with heap:=h7,toks:=s.toks + 1 }) H fun h8 tk m8 n8 b8=>?_
  refine wpAny_nameGoes kie (s:={ s with heap:=h8,toks:=tk }) n8 hp fun h9 m9 n9 b9=>?_
  exact k h6 h9 _ fl6.1 uu ((b7.trans b8).trans b9)
theorem caught_call (X:CxOk cx G) (GK:GG G g) {fc fo:Addr} {name qual:Str} {params:Arguments} {body:List Stmt} {scope:Scope} {kV doc pm cdv ct oc:Value} {an od:Option Addr} {osl:Array (Option Value)} {names:List (Str × NameKind)}
    (ho:G.K.lookup fc = some ⟨oc,od,.func (fnOf name qual params body scope .none kV doc pm an cdv ct),osl⟩) (hcd:codeIn G.K cdv qual = true) (hpp:plainPs params = some [p.deed,p.due]) (hs:slotsOk names scope = true) (hkd:scope.kind = .function) (hco:scope.isCoroutine = false) (hgen:scope.isGenerator = false) (hcell:∀ x ∈ scope.names,x.2 ≠ .cell)
    (CR:CaughtR cx scope p body) (NP:NamesP names p) (hne:p.deed ≠ p.due) {mv:Value} (hmv:clsV G.K p.mill = some mv) {d:Str} {td:Tok} {K:Hp → Prop} {A:Around} {s:Shared} {am:AM} {hp:Hp} {l:List Env} (rm:RoomC noX A (r + 1)) (hl:A.frames = some l) (hk:Stk G am s.heap l) (sz:G.base.objs.size ≤ s.heap.objs.size) (hr:HR G am s.heap hp) (sm:Same G s) (fo_:FnAt fo s.heap)
    (L:∀ env2 s2,(∀ b o,s.heap.get? b = some o → s2.heap.get? b = some o) → Same G s2 → RoomC noX (A.deeper env2) r → (A.deeper env2).frames = some (env2 :: l) → Stk G am s2.heap (env2 :: l) → G.base.objs.size ≤ s2.heap.objs.size → HR G am s2.heap hp →
      codeAny (model G.prog G.w) (A.deeper env2) (.call (.ref fo) ⟨[],[]⟩) (fun res s'=>match res with | .ok (.ret v)=>d = p.nil ∧ EvP G s2 am (fun zz h=>K h) v s' | .ok _=>False | .error e=>Fly G (env2 :: l) s2 am (fun w h=>K h ∧ ∀ C,ExcC G w C → OkC G.K p mv d C) e s') s2) :
    codeAny (model G.prog G.w) A (.call (.ref fc) ⟨[.ref fo,.str d td],[]⟩) (fun res s'=>res = .ok (.ret (.bool true)) ∧ AftC G l s am K s') s:=by
  refine of_P fun PP hPP=>?_
  obtain ⟨q1,q2,q3,q4,q5⟩:=fo_
  have hsl:=hs
  simp only [slotsOk,Bool.and_eq_true,List.all_eq_true,decide_eq_true_eq] at hsl
  have loc:∀ x,(∃ i:Nat,names[i]? = some (x,.local)) → scope.names.lookup x = some .local:=fun x ⟨i,e⟩=>by
    have q:=hsl.1 _ (List.mem_of_getElem? e)
    simp only [beq_iff_eq] at q
    exact q.1.1.1
  refine hPP ?_
  refine codeAny_call_function (fd:=fnOf name qual params body scope .none kV doc pm an cdv ct) (by have:=rm.depth; (first | lia | omega)) (hr.base _ _ (GK.ok.x _ _ ho)) rfl hco hgen rfl (codeRec_of (GK.ok.x.keeps hr.base) hcd) ?_
  rw [bindArgs_plain (fd:=fnOf name qual params body scope .none kV doc pm an cdv ct) (vals:=[.ref fo,.str d td]) hpp rfl rfl (List.nodup_cons.mpr ⟨fun q=>hne (List.mem_singleton.mp q),List.nodup_cons.mpr ⟨List.not_mem_nil,.nil⟩⟩)]
  refine wpAny_pure (wpAny_newFunctionEnv hcell (fun x hx=>?_) (fun h₁ hns hsb=>?_) hkd)
  · rcases List.mem_cons.mp hx with rfl | hx
    · exact loc _ NP.deed
    · rcases List.mem_cons.mp hx with rfl | hx
      · exact loc _ NP.due
      · cases hx
  have kp:∀ b o,s.heap.get? b = some o → h₁.get? b = some o:=fun b o e=>hsb.extBut b o (Nat.ne_of_lt (Heap.lt_size e)) (Heap.get?_push_of_some _ e)
  refine ⟨(GK.ok.nolimit.keeps hr.base).keeps kp,codeAny_func ?_⟩
  have O : EnvOk (newEnv scope s.heap.objs.size mainGlobals [] (qual ++ ".<locals>.") (some fc) cdv none builtinsNs) names := envOk_of hs hkd rfl rfl
  have hf : (newEnv scope s.heap.objs.size mainGlobals [] (qual ++ ".<locals>.") (some fc) cdv none builtinsNs).frame = some (newEnv scope s.heap.objs.size mainGlobals [] (qual ++ ".<locals>.") (some fc) cdv none builtinsNs).locals := rfl
  have hsc : (newEnv scope s.heap.objs.size mainGlobals [] (qual ++ ".<locals>.") (some fc) cdv none builtinsNs).scope = scope := rfl
  have hlc : (newEnv scope s.heap.objs.size mainGlobals [] (qual ++ ".<locals>.") (some fc) cdv none builtinsNs).locals = s.heap.objs.size := rfl
  show wpAny _ (A.deeper (newEnv scope s.heap.objs.size mainGlobals [] (qual ++ ".<locals>.") (some fc) cdv none builtinsNs)) (execs body (newEnv scope s.heap.objs.size mainGlobals [] (qual ++ ".<locals>.") (some fc) cdv none builtinsNs)) _ (fun e s' => wpAny _ (A.deeper (newEnv scope s.heap.objs.size mainGlobals [] (qual ++ ".<locals>.") (some fc) cdv none builtinsNs)) (leaving (newEnv scope s.heap.objs.size mainGlobals [] (qual ++ ".<locals>.") (some fc) cdv none builtinsNs) e) _ _ _) _
  generalize newEnv scope s.heap.objs.size mainGlobals [] (qual ++ ".<locals>.") (some fc) cdv none builtinsNs = env at *
  rw [← hlc] at hns
  have fresh:s.heap.get? env.locals = none:=by rw [hlc]; exact get_none_of_size ..
  have nm:env.locals ∉ am.muts:=fun hm=>by
    obtain ⟨q,hq,e⟩:=List.mem_map.mp hm
    obtain ⟨-,ob,hb,-⟩:=hr.live hq
    rw [e,fresh] at hb; cases hb
  have nb:G.base.get? env.locals = none:=by
    cases q:G.base.get? env.locals with
    | none=>rfl
    | some o=>have:=hr.base _ _ q; rw [fresh] at this; cases this
  have hr1:HR G am h₁ hp:=hr.keepAll kp
  have sm1:Same G ({ s with heap:=h₁,toks:=s.toks + 2 }:Shared):=⟨sm.gens,sm.os⟩
  have mdu:∀ x v,(x,v) ∈ ([p.deed,p.due].zip [Value.ref fo,Value.str d td]) → (([p.deed,p.due].zip [Value.ref fo,Value.str d td]).reverse.lookup x) = some v:=fun x v h=>by
    rcases List.mem_cons.mp h with e | h
    · cases e
      show List.lookup p.deed [(p.due,Value.str d td),(p.deed,Value.ref fo)] = _
      rw [List.lookup_cons,show (p.deed == p.due) = false from beq_eq_false_iff_ne.mpr hne]
      dsimp only
      rw [List.lookup_cons,beq_self_eq_true]
    · rcases List.mem_cons.mp h with e | h
      · cases e
        show List.lookup p.due [(p.due,Value.str d td),(p.deed,Value.ref fo)] = _
        rw [List.lookup_cons,beq_self_eq_true]
      · cases h
  have md:=mdu p.due _ (.tail _ (.head _))
  have mo:=mdu p.deed _ (.head _)
  have st1:Stk G am h₁ (env :: l):=fun e he=>by
    rcases List.mem_cons.mp he with rfl | he
    · obtain ⟨o,ho1,_,es,ep,hd⟩:=ns_obj hns
      exact ⟨by rw [O.kind]; decide,_,o,es,ep,hf,nb,ho1,hd,nm⟩
    · obtain ⟨kd,L',o,es,ep,h1,h2,h3,h4,h5⟩:=hk e he
      exact ⟨kd,L',o,es,ep,h1,h2,kp _ _ h3,h4,h5⟩
  have rm1:RoomC noX (A.deeper env) r:=⟨by show A.depth + 1 + r + 101 ≤ _; have:=rm.depth; (first | lia | omega),by show A.units + 3 + 10 * r + 300 ≤ _; have:=rm.units; (first | lia | omega),rm.handled,⟨_,Around.frames_deeper hl⟩,rm.noX⟩
  have lo:G.base.objs.size ≤ h₁.objs.size:=nlt (nlt sz (Nat.le_of_eq hlc.symm)) (Nat.le_of_lt hns.lt)
  have LL:=L env { s with heap:=h₁,toks:=s.toks + 2 } kp sm1 rm1 (Around.frames_deeper hl) st1 lo hr1
  obtain ⟨i1,hi1⟩:=NP.deed
  obtain ⟨i2,hi2⟩:=NP.due
  subst hsc
  cases CR with
  | mk S hmg=>
    have key:∀ {pa pb:Pos},wpAny (model G.prog G.w) (A.deeper env) (eval (.Call (.Name p.deed pa) [] [] pb) env) (fun v s'=>d = p.nil ∧ EvP G { s with heap:=h₁,toks:=s.toks + 2 } am (fun zz h=>K h) v s') (Fly G (env :: l) { s with heap:=h₁,toks:=s.toks + 2 } am (fun w h=>K h ∧ ∀ C,ExcC G w C → OkC G.K p mv d C)) { s with heap:=h₁,toks:=s.toks + 2 }:=by
      intro pa pb
      rw [eval_Call_plain ⟨_,_,rfl⟩]
      refine wpAny_bind (ld_loc O hns hi1 mo ?_)
      refine callWith_F0 ⟨q1,q2,q3,q4,kp _ _ q5⟩ (wpAny_call (codeAny_mono LL fun res s' z=>?_))
      rcases res with e | (_ | _ | _ | v)
      · exact z
      · exact z.elim
      · exact z.elim
      · exact z.elim
      · exact z
    refine wpAny_execs_cons (wpAny_Try_except (wpAny_execs_cons (wpAny_Expr_any (wpAny_mono key (fun v s' z=>?_) fun e s' z=>?_) (interactive_no O) (swaps_plain rfl _ _ _))))
    rotate_left
    · refine of_P fun P2 h2P=>?_
      obtain ⟨a,w,Ca,B,a0,hp',am',rfl,x2,x3,x4,x5,x6,x7,x8⟩:=z
      have ef:frs (env :: l) = env.locals :: frs l:=by unfold frs; rw [List.filterMap_cons,hf]
      rw [ef] at x6 x7
      have ns':s'.heap.Ns env.locals (fun x=>([p.deed,p.due].zip [Value.ref fo,Value.str d td]).reverse.lookup x):=by
        obtain ⟨o,es,ep,e1,e2,e3⟩:=hns
        obtain ⟨sl,e4⟩:=x7 _ (.head _) o e1 (fun vs q=>by rw [e2] at q; cases q)
        exact ⟨_,es,ep,e4,e2,e3⟩
      refine h2P (handler_ok X GK O hf NP S (x2.2 Ca x3) hmg hmv (Around.frames_deeper hl) x4 x5.base ns' md fun h1 h2 tk bs us sb=>⟨rfl,?_⟩)
      have hL:B.get? env.locals = none:=by
        obtain ⟨_,⟨L',_,hf',hn',_⟩,_⟩:=x4.2.2.1
        rw [hf] at hf'
        cases hf'
        exact hn'
      have kB:∀ b o,B.get? b = some o → h2.get? b = some o:=fun b o e=>by
        have ne:b ≠ env.locals:=fun q=>by rw [q,hL] at e; cases e
        rw [sb.2 b ne]; exact bs b o e
      obtain ⟨ll,el,f2⟩:=x6.ext
      have none_of:∀ b,h₁.get? b = none → s.heap.get? b = none:=fun b z=>by
        cases q:s.heap.get? b with
        | none=>rfl
        | some o=>rw [kp _ _ q] at z; cases z
      refine ⟨hp',am',x2.1,x5.keepAll kB,⟨fun b o e n1 n2=>kB b o (x6.keep b o (kp b o e) (fun q=>?_) n2),fun b hb o e n=>?_,fun b i t=>(x6.tup b i (t.keeps kp)).keeps kB,⟨ll,el,fun q hq=>⟨none_of _ (f2 q hq).1,none_of _ (f2 q hq).2⟩⟩⟩,⟨x8.gens,x8.os⟩⟩
      · rcases List.mem_cons.mp q with rfl | q
        · rw [fresh] at e; cases e
        · exact n1 q
      · obtain ⟨sl,e1⟩:=x7 b (.tail _ hb) o (kp b o e) n
        obtain ⟨sl2,e2⟩:=us b _ e1 n
        have ne:b ≠ env.locals:=fun q=>by rw [q,fresh] at e; cases e
        exact ⟨sl2,(sb.2 b ne).trans e2⟩
    · refine of_P fun P2 h2P=>?_
      obtain ⟨rfl,c,hp',am',z1,z2,z3,z4,z5⟩:=z
      have ns':s'.heap.Ns env.locals (fun x=>([p.deed,p.due].zip [Value.ref fo,Value.str p.nil td]).reverse.lookup x):=by
        obtain ⟨o,es,ep,e1,e2⟩:=hns
        exact ⟨o,es,ep,z4.keep _ o e1 List.not_mem_nil nm,e2⟩
      refine h2P (wpAny_execs_nil (wpAny_execs_nil ?_))
      refine wpAny_execs_cons (wpAny_Return_some (wpAny_Compare1 (ld_loc O ns' hi2 md (wpAny_Constant_str (P.eq_str ?_))) rfl))
      rw [beq_self_eq_true]
      refine ⟨rfl,hp',am',z1,z3,⟨fun b o e n1 n2=>z4.keep b o (kp b o e) List.not_mem_nil n2,fun b hb o e n=>⟨o.slots,z4.keep b o (kp b o e) List.not_mem_nil (hk.mem hb).2.1⟩,fun b i t=>z4.tup b i (t.keeps kp),?_⟩,⟨z5.gens,z5.os⟩⟩
      obtain ⟨ll,el,f2⟩:=z4.ext
      have none_of:∀ b,h₁.get? b = none → s.heap.get? b = none:=fun b z=>by
        cases q:s.heap.get? b with
        | none=>rfl
        | some o=>rw [kp _ _ q] at z; cases z
      exact ⟨ll,el,fun q hq=>⟨none_of _ (f2 q hq).1,none_of _ (f2 q hq).2⟩⟩
end
end Mine
end
noncomputable section
namespace Mine
open PySem PySem.W PyProof.Rows
structure LamOk (G:Glb) (c P:Addr):Prop where
  mod:∃ mg,G.base.Ns mainGlobals mg ∧ G.base.BuiltinsAt mg P
  hd:CodeHd G.base c P
  gP:mainGlobals ≠ P
  nb:G.base.get? P = none
inductive LamS (G:Glb) (g:Genv) (r:Nat) (p:CaughtP) (mv:Value) (d:Str) (q:LamP) (pv:V) (hp:Hp) (K:Hp → Prop):Prop
  | good:d = p.nil → wpEs g (callWp g (r + 1)) (callWp g r) [some pv] q.is hp (fun vs h=>callWp g (r + 1) q.f vs h (fun zz h'=>K h') noX) noX → LamS G g r p mv d q pv hp K
  | bad:wpEs g (callWp g (r + 1)) (callWp g r) [some pv] q.is hp (fun vs h=>Raises G q.f vs h (fun w h'=>K h' ∧ ∀ C,ExcC G w C → OkC G.K p mv d C) (r + 1)) noX → LamS G g r p mv d q pv hp K
section
variable {cx:Cx} {G:Glb} {g:Genv} {r:Nat} {p:CaughtP} {env:Env} {names:List (Str × NameKind)}
theorem Rel.up {s s':Shared} {am am':AM} {loc:Locs} {hp hp':Hp} (R:Rel G env names s am loc hp) (a:AftU [env.locals] s.heap am s'.heap am') (hr:HR G am' s'.heap hp') (sm:Same G s'):Rel G env names s' am' loc hp':=by
  obtain ⟨m,F,lr⟩:=R.fr
  have le:AM.Le am am':=by
    obtain ⟨l,rfl,_⟩:=a.ext
    intro i p e
    rw [List.getElem?_append_left (by obtain ⟨q,_⟩:=List.getElem?_eq_some_iff.mp e; exact q)]; exact e
  have memc:∀ c x,env.cells.lookup x = some c → c ∈ ownA env ∧ c ≠ env.locals:=fun c x hl=>⟨by simp only [ownA,List.mem_cons,List.mem_map]; exact .inr ⟨(x,c),mem_of_lookup hl,rfl⟩,(R.apartL _ (mem_of_lookup hl)).1⟩
  have cl:∀ c x v,env.cells.lookup x = some c → s.heap.IsCell c v → s'.heap.IsCell c v:=fun c x v hl ⟨o,ho,hd⟩=>
    ⟨o,a.keep c o ho (fun q=>(memc c x hl).2 (List.mem_singleton.mp q)) (R.own c (memc c x hl).1).1,hd⟩
  have live:∀ b ∈ ownA env,∃ o,s.heap.get? b = some o:=fun b hb=>by
    simp only [ownA,List.mem_cons,List.mem_map] at hb
    rcases hb with e | ⟨c,hc,e⟩
    · obtain ⟨o,es,ep,ho,r⟩:=F.ns; exact ⟨o,e ▸ ho⟩
    · exact e ▸ Option.isSome_iff_exists.mp (R.apartL c hc).2
  refine ⟨hr,⟨m,⟨?_,hr.base,F.above⟩,?_⟩,?_,?_,R.apart,?_,R.len,sm⟩
  · obtain ⟨o,es,ep,ho,hd,r⟩:=F.ns
    obtain ⟨sl,e⟩:=a.up _ (.head _) o ho fun vs q=>by rw [hd] at q; cases q
    exact ⟨_,es,ep,e,hd,r⟩
  · intro i v e
    obtain ⟨x,k,val,h1,h2,h3⟩:=lr i v e
    refine ⟨x,k,val,h1,h2.mono a.tup le,?_⟩
    cases k <;> simp only [BindAt] at h3 ⊢
    · exact h3
    · obtain ⟨c,h4,h5⟩:=h3; exact ⟨c,h4,cl c x _ h4 h5⟩
    · obtain ⟨c,h4,h5⟩:=h3; exact ⟨c,h4,cl c x _ h4 h5⟩
  · intro b hb
    refine ⟨?_,(R.own b hb).2⟩
    obtain ⟨l,rfl,f⟩:=a.ext
    simp only [AM.muts,List.map_append,List.mem_append,not_or]
    refine ⟨(R.own b hb).1,fun q=>?_⟩
    obtain ⟨p,hp,rfl⟩:=List.mem_map.mp q
    obtain ⟨o,ho⟩:=live _ hb
    rw [(f p hp).2] at ho; cases ho
  · intro x hx
    obtain ⟨c,v,h1,h2⟩:=R.cells x hx
    exact ⟨c,v,h1,cl c x v h1 h2⟩
  · intro c hc
    refine ⟨(R.apartL c hc).1,?_⟩
    obtain ⟨o,ho⟩:=Option.isSome_iff_exists.mp (R.apartL c hc).2
    have hm:c.2 ∈ ownA env:=by simp only [ownA,List.mem_cons,List.mem_map]; exact .inr ⟨c,hc,rfl⟩
    rw [a.keep c.2 o ho (fun q=>(R.apartL c hc).1 (List.mem_singleton.mp q)) (R.own _ hm).1]; rfl
theorem closure_one {lsc:Scope} {y fx:Str} {c:Addr} (h:lsc.names = [(y,.free),(fx,.globalImplicit)]) (hc:env.cells.lookup y = some c):closureFor lsc env = pure [(y,c)]:=by
  unfold closureFor cellOf
  rw [h]
  simp only [List.forIn_cons,List.forIn_nil,hc]
  rfl
end
end Mine
end
noncomputable section
namespace Mine
open PySem PySem.W PyProof.Rows
section
variable {cx:Cx} {G:Glb} {g:Genv} {r:Nat} {p:CaughtP} {env:Env} {names:List (Str × NameKind)}
theorem Stk.keeps {am:AM} {h h':Heap} {l:List Env} (k:Stk G am h l) (kp:∀ b o,h.get? b = some o → h'.get? b = some o):Stk G am h' l:=fun e he=>by
  obtain ⟨kd,L,o,es,ep,h1,h2,h3,h4,h5⟩:=k e he
  exact ⟨kd,L,o,es,ep,h1,h2,kp _ _ h3,h4,h5⟩
set_option tactic.hygienic true in
theorem callc_ok (X:CxOk cx G) (GK:GG G g) (hfn:∀ f fn,g.fn f = some fn → ∃ a,cx.fnL[f]? = some a ∧ compFn cx a = some fn) (O:EnvOk env names) (hf:env.frame = some env.locals) {c P:Addr} (hcode:env.code = .ref c) (LO:LamOk G c P) (noP:P ∉ ownA env) {fc:Addr} (CF:CaughtF cx p fc) {mv:Value} (hmv:clsV G.K p.mill = some mv) {q:LamP} {e:PySem.Expr} (CC:CallcR cx env.scope fc q e)
    {jy jd:Nat} (hy:names[jy]? = some (q.y,.cell)) (hdn:names[jd]? = some (q.du,.local)) {A:Around} {s:Shared} {am:AM} {loc:Locs} {hp:Hp} {ps:Array Value} (rm:Room noX A (r + 3)) (hfr:A.frames = some [env]) (R:Rel G env names s am loc hp) (hP:s.heap.get? P = some (tabObj ps)) (nm:P ∉ am.muts) (ht:TriplesOk ps.toList) (hnf:∀ pos:Pos,pos.line = q.line → pos.col = q.col → codeAmong pos ps.toList = none)
    {pv:V} {dw:Nat} {d:Str} (gy:Mine.getL loc jy = some pv) (gd:Mine.getL loc jd = some (.str dw)) (hdw:G.ws[dw]? = some d) {K:Hp → Prop} (HS:LamS G g r p mv d q pv hp K) {E:Value → Shared → Prop} {Q:Value → Shared → Prop}
    (k:∀ s' am' hp' c',K hp' → Rel G env names s' am' loc hp' → s'.heap.get? P = some (tabObj (ps ++ #[rawInt q.line,rawInt q.col,.ref c'])) → P ∉ am'.muts → Q (.bool true) s'):wpAny (model G.prog G.w) A (eval e env) Q E s:=by
  cases CC with
  | mk g1 g2 g3 g4 g5 g6 g7 g8 g9 g10 g11 g12 g13 g14=>
  rename_i aps es lsc fx lp p1 p2 p3 p4 p5
  refine of_P fun PP hPP=>?_
  obtain ⟨m,F,lr⟩:=R.fr
  obtain ⟨⟨c1,c2⟩,c3,c4,c5,c6,c7,c8,c9,c10,c11,c12⟩:=CF
  rw [← X.K] at c1 c2 c12
  obtain ⟨x0,k0,val,n1,n2,n3⟩:=lr jy pv gy
  rw [hy] at n1
  cases n1
  obtain ⟨cy,l1,l2⟩:=n3
  obtain ⟨x0,k0,dval,n1,m2,m3⟩:=lr jd _ gd
  rw [hdn] at n1
  cases n1
  have m3:m q.du = some dval:=m3
  cases m2 with
  | str td hw=>
  rw [hdw] at hw
  cases hw
  have own:=R.own cy (by simp only [ownA,List.mem_cons,List.mem_map]; exact .inr ⟨(q.y,cy),mem_of_lookup l1,rfl⟩)
  obtain ⟨mg,hmg,bm,ob,b1,b2,b3,b4,b5,b6⟩:=LO.mod
  have kb:=R.hr.base
  have ncy:cy ≠ P:=fun z=>noP (by rw [← z]; simp only [ownA,List.mem_cons,List.mem_map]; exact .inr ⟨(q.y,cy),mem_of_lookup l1,rfl⟩)
  refine hPP ?_
  rw [eval_Call_plain ⟨_,_,rfl⟩]
  refine wpAny_bind (snd_global GK O R (isGl_ok rfl g1).1 (isGl_ok rfl g1).2 (by rw [X.K]; exact g2) ?_)
  refine callWith_es (P:=fun h=>∀ b o,G.base.get? b = some o → h.get? b = some o) rfl (fun hh kb=>keeps_K c12 hh (GK.ok.x.keeps kb)) ?_
  rw [starEach_cons rfl,starEach_cons rfl]
  have hdef:defaultsOf aps env = ([],[]):=by
    obtain ⟨d1,d2,d3,d4,d5,d6,d7⟩:=aps
    cases g4; cases g5
    rfl
  refine Calls.spliced_cons (kla_eval hdef (kla_makeFunction (closure_one g6 l1) O.glob (hmg.keeps kb) hcode (LO.hd.keeps kb) hP ht (hnf lp g13 g14) LO.gP ⟨bm,ob,b1,b2,b3,b4,kb _ _ b5,b6⟩ fun c' ctv h' tk ext hge hlt hrec htb=>?_))
  rw [g13,g14] at htb
  have kbt : KeepBut [P] s.heap (h'.push (kla_obj "<lambda>" (env.qual ++ "<lambda>") aps (.Call (.Name fx p2) es [] p3) lsc [(q.y, cy)] ((mg "__name__").getD .none) c' ctv)) := .one fun b o ne e => Heap.get?_push_of_some _ (ext b o ne e)
  have dull:Dull s.heap P:=⟨_,hP,fun zz zz z=>(by cases z),fun zz zz z=>(by cases z)⟩
  obtain ⟨hr1,tk1⟩:=R.hr.keepBut kbt (all_one dull) (all_one nm) (all_one LO.nb)
  have R1:=R.keepBut (tk:=tk) kbt hr1 tk1 (all_one noP)
  obtain ⟨m1,F1,lr1⟩:=R1.fr
  have hP1 : (h'.push (kla_obj "<lambda>" (env.qual ++ "<lambda>") aps (.Call (.Name fx p2) es [] p3) lsc [(q.y, cy)] ((mg "__name__").getD .none) c' ctv)).get? P = some (tabObj (ps ++ #[rawInt q.line, rawInt q.col, .ref c'])) := Heap.get?_push_of_some _ htb
  have hfo : (h'.push (kla_obj "<lambda>" (env.qual ++ "<lambda>") aps (.Call (.Name fx p2) es [] p3) lsc [(q.y, cy)] ((mg "__name__").getD .none) c' ctv)).get? h'.objs.size = some (kla_obj "<lambda>" (env.qual ++ "<lambda>") aps (.Call (.Name fx p2) es [] p3) lsc [(q.y, cy)] ((mg "__name__").getD .none) c' ctv) := Heap.get?_push_size _ rfl
  have hrec1 := hrec.keeps fun b o e => Heap.get?_push_of_some (kla_obj "<lambda>" (env.qual ++ "<lambda>") aps (.Call (.Name fx p2) es [] p3) lsc [(q.y, cy)] ((mg "__name__").getD .none) c' ctv) e
  have cell1 : (h'.push (kla_obj "<lambda>" (env.qual ++ "<lambda>") aps (.Call (.Name fx p2) es [] p3) lsc [(q.y, cy)] ((mg "__name__").getD .none) c' ctv)).IsCell cy (some val) := by
    obtain ⟨o,h1,h2⟩:=l2
    exact ⟨o,kbt _ _ (fun z=>ncy (List.mem_singleton.mp z)) h1,h2⟩
  have rv1 : RV G.ws am (h'.push (kla_obj "<lambda>" (env.qual ++ "<lambda>") aps (.Call (.Name fx p2) es [] p3) lsc [(q.y, cy)] ((mg "__name__").getD .none) c' ctv)) pv val := n2.mono tk1 fun zz zz e => e
  have ns1 : (h'.push (kla_obj "<lambda>" (env.qual ++ "<lambda>") aps (.Call (.Name fx p2) es [] p3) lsc [(q.y, cy)] ((mg "__name__").getD .none) c' ctv)).Ns env.locals m := by
    obtain ⟨o,es',ep,ho,r⟩:=F.ns
    exact ⟨o,es',ep,kbt _ _ (fun z=>noP (by rw [← List.mem_singleton.mp z]; exact .head _)) ho,r⟩
  generalize hH : h'.push (kla_obj "<lambda>" (env.qual ++ "<lambda>") aps (.Call (.Name fx p2) es [] p3) lsc [(q.y, cy)] ((mg "__name__").getD .none) c' ctv) = H at *
  refine Calls.spliced_cons (ld_loc O ns1 hdn m3 (Calls.spliced_nil ⟨hr1.base,?_⟩))
  have stk:Stk G am H [env]:=R1.stk hf O.kind fun zz h=>nomatch h
  refine wpAny_call (codeAny_mono (caught_call (r:=r + 2) (d:=d) (td:=td) (K:=K) (s:={ s with heap:=H,toks:=tk }) X GK c1 c2 c3 c4 c5 c6 c7 c8 c9 c10 c11 hmv rm.c hfr stk R1.size hr1 R1.same ⟨_,_,_,_,hfo⟩ fun env2 s2 kp sm2 rm2 hf2 st2 sz2 hr2=>?_) fun res s' z=>?_)
  · refine lam_in (r:=r + 1) GK g3 g10 g7 g8 g9 ?_ (kp _ _ hfo) (hrec1.keeps kp) rm2 sz2 hr2 sm2 (by obtain ⟨o,h1,h2⟩:=cell1; exact ⟨o,kp _ _ h1,h2⟩) own.1 own.2 (rv1.mono (fun zz zz t=>t.keeps kp) fun zz zz e=>e) fun env3 s3 O3 sc3 fr3 fresh kp3 R3 rm3=>?_
    · intro x hx
      rw [g6] at hx
      rcases List.mem_cons.mp hx with rfl | hx
      · intro z; cases z
      · rcases List.mem_cons.mp hx with rfl | hx
        · intro z; cases z
        · cases hx
    · have HC:=call_ok X GK hfn (r + 1)
      have HN:=call_ok X GK hfn r
      have l:=(compAll_ok X GK HC HN (.inl rfl) 20 _ lsc env3 O3 sc3).es _ _ g12
      have hr:=hd_ok g11
      cases HS with
      | good e1 hw=>
        refine wpAny_mono (callE_ok X GK HC HN (.inl rfl) O3 sc3 hr l rfl [some pv] hp (fun zz h=>K h) noX _ s3 am hw rm3 R3) (fun v s4 z=>?_) fun zz zz z=>z.no.elim
        exact ⟨e1,EvP.back (Aft.ofKeep kp3) z⟩
      | bad hw=>
        obtain ⟨e1,e2,_⟩:=l.all
        cases hr with
        | fn a b c=>
          refine wpAny_mono (raiseE GK O3 fr3 (isGl_ok sc3 a).1 (isGl_ok sc3 a).2 (X.fn _ _ c) (by rw [X.K]; exact b) e2 e1 hw rm3 (Around.frames_deeper hf2) (st2.keeps kp3) R3) (fun zz zz z=>z.elim) fun e s4 z=>?_
          exact Fly.leave hf2 fr3 fresh kp3 z
  · obtain ⟨rfl,hp',am',z1,z2,z3,z4⟩:=z
    have ef:frs [env] = [env.locals]:=by unfold frs; rw [List.filterMap_cons,hf]; rfl
    rw [ef] at z3
    refine k s' am' hp' c' z1 (R1.up z3 z2 z4) (z3.keep P _ hP1 (fun z=>noP (by rw [List.mem_singleton.mp z]; exact .head _)) nm) ?_
    obtain ⟨ll,rfl,f⟩:=z3.ext
    simp only [AM.muts,List.map_append,List.mem_append,not_or]
    refine ⟨nm,fun z=>?_⟩
    obtain ⟨p',hp1,e1⟩:=List.mem_map.mp z
    have:=(f p' hp1).2
    rw [e1] at this
    exact absurd (hP1.symm.trans this) (fun z=>nomatch z)
end
end Mine
end
noncomputable section
namespace Mine
open PySem PySem.W PyProof.Rows
noncomputable def farOk (L:LawP):Bool:=!(L.q1.line == L.q2.line && L.q1.col == L.q2.col) && !(L.q1.line == L.q3.line && L.q1.col == L.q3.col) && !(L.q2.line == L.q3.line && L.q2.col == L.q3.col)
section
variable {cx:Cx} {G:Glb} {g:Genv} {C N:Oracle} {r rn:Nat} {p:CaughtP} {env:Env} {names:List (Str × NameKind)}
theorem sts_then (X:CxOk cx G) (GK:GG G g) (HC:CallOk G C r) (HN:CallOk G N rn) (hrn:r = rn + 1 ∨ ∀ f vs hp Q X,¬ N f vs hp Q X) {sc:Scope} (O:EnvOk env names) (hs:env.scope = sc) {A:Around} {E:Value → Shared → Prop} {rest:List Stmt} {Q:Flow → Shared → Prop} (rm:Room noX A r):∀ (n:Nat) (sts:List Stmt) (i:Mine.S) (KN:St → Prop) (σ:St) (s:Shared) (am:AM),
    compSs cx names sc n sts = some i → wpS g C N i σ KN (fun zz zz=>False) noX → Rel G env names s am σ.loc σ.hp → (∀ loc' hp' s' am',KN ⟨loc',hp'⟩ → Rel G env names s' am' loc' hp' → Aft (ownA env) s.heap am s'.heap am' → wpAny (model G.prog G.w) A (execs rest env) Q E s') → wpAny (model G.prog G.w) A (execs (sts ++ rest) env) Q E s
  | 0,_,_,_,_,_,_,h=>nomatch h
  | n + 1,[],i,KN,σ,s,am,h=>fun hw R k=>by
    cases h
    exact k σ.loc σ.hp s am hw R (Aft.refl _ _ _)
  | n + 1,st :: sts,i,KN,σ,s,am,h=>fun hw R k=>by
    obtain ⟨j,h1,h⟩:=bind_some (show (compS cx names sc n st).bind _ = some i from h)
    obtain ⟨k2,h2,h⟩:=map_some' h
    subst h
    dsimp only [wS_seq] at hw
    refine wpAny_execs_cons (wpAny_mono ((compS_ok X GK HC HN hrn O hs n).s _ _ h1 σ _ _ noX A s am E hw rm R) (fun fl s1 z=>?_) fun zz zz z=>z)
    cases fl with
    | next=>
      obtain ⟨l,hp,am1,z1,z2,z3⟩:=z
      exact sts_then X GK HC HN hrn O hs rm n sts k2 KN ⟨l,hp⟩ s1 am1 h2 z1 z2 fun loc' hp' s' am' q1 q2 q3=>k loc' hp' s' am' q1 q2 (z3.trans q3)
    | ret v=>obtain ⟨_,_,_,z,_⟩:=z; exact z.elim
    | brk=>exact z.elim
    | cont=>exact z.elim
noncomputable def LawS (G:Glb) (g:Genv) (r:Nat) (p:CaughtP) (mv:Value) (L:LawP) (σ:St):Prop:=∃ pv dw d,Mine.getL σ.loc L.jy = some pv ∧ Mine.getL σ.loc L.jd = some (.str dw) ∧ G.ws[dw]? = some d ∧
  LamS G g r p mv d L.q1 pv σ.hp fun h1=>LamS G g r p mv d L.q2 pv h1 fun h2=>LamS G g r p mv d L.q3 pv h2 fun h3=>wpE g (callWp g (r + 3)) (callWp g (r + 2)) σ.loc L.i h3 (fun v zz=>v = .bool true) noX
theorem codeAmong_ne {pos:Pos} {c:Value} {l k:Nat} (h:(l == pos.line && k == pos.col) = false) (rest:List Value) (hr:codeAmong pos rest = none):codeAmong pos (rawInt l :: rawInt k :: c :: rest) = none:=by
  show (if ((l:Int) == (pos.line:Int) && (k:Int) == (pos.col:Int)) = true then some c else codeAmong pos rest) = none
  rw [if_neg,hr]
  intro z
  rw [Bool.and_eq_true,beq_iff_eq,beq_iff_eq] at z
  rw [beq_iff_eq.mpr (Int.ofNat.inj z.1),beq_iff_eq.mpr (Int.ofNat.inj z.2)] at h
  cases h
theorem law_body (X:CxOk cx G) (GK:GG G g) (hfn:∀ f fn,g.fn f = some fn → ∃ a,cx.fnL[f]? = some a ∧ compFn cx a = some fn) (O:EnvOk env names) (hf:env.frame = some env.locals) {c P:Addr} (hcode:env.code = .ref c) (LO:LamOk G c P) (noP:P ∉ ownA env) {fc:Addr} (CF:CaughtF cx p fc) {mv:Value} (hmv:clsV G.K p.mill = some mv) {L:LawP} (far:farOk L = true) {body:List Stmt} (LR:LawR cx names env.scope fc L body)
    {A:Around} {s:Shared} {am:AM} {loc:Locs} {hp:Hp} {E:Value → Shared → Prop} (rm:Room noX A (r + 3)) (hfr:A.frames = some [env]) (R:Rel G env names s am loc hp) (hP:s.heap.get? P = some (tabObj #[])) (nm:P ∉ am.muts) (hw:wpS g (callWp g (r + 3)) (callWp g (r + 2)) L.S ⟨loc,hp⟩ (LawS G g r p mv L) (fun zz zz=>False) noX) :
    wpAny (model G.prog G.w) A (execs body env) (fun f s'=>f = .ret (.bool true) ∧ (∀ b o,G.base.get? b = some o → s'.heap.get? b = some o) ∧ Same G s' ∧ ∃ ps,s'.heap.get? P = some (tabObj ps)) E s:=by
  have HC:=call_ok X GK hfn (r + 3)
  have HN:=call_ok X GK hfn (r + 2)
  simp only [farOk,Bool.and_eq_true,Bool.not_eq_true'] at far
  obtain ⟨⟨f12,f13⟩,f23⟩:=far
  cases LR with
  | mk g1 g2 g3 g4 g5 g6 g7 g8 g9 g10 g11=>
  refine sts_then X GK HC HN (.inl rfl) O rfl rm 200 _ _ (LawS G g r p mv L) ⟨loc,hp⟩ s am g1 hw R fun loc1 hp1 s1 am1 S1 R1 a1=>?_
  refine of_P fun PP hPP=>?_
  obtain ⟨pv,dw,d,y1,y2,y3,y4⟩:=S1
  dsimp only at y1 y2 y4
  refine hPP ?_
  have hP1:=a1.keep P _ hP noP nm
  have nm1:=a1.muts_out nm (by rw [hP]; rfl)
  refine wpAny_execs_cons (wpAny_If (isTrue_not (isTrue_plain (callc_ok X GK hfn O hf hcode LO noP CF hmv g2 g6 g7 rm hfr R1 hP1 nm1 trivial (fun zz zz zz=>rfl) y1 y2 y3 y4 fun s2 am2 hp2 c2 k2 R2 hP2 nm2=>wpAny_truthy_bool ?_) (by cases g2; rfl))))
  rw [if_neg (by decide)]
  refine wpAny_execs_nil ?_
  dsimp only
  refine wpAny_execs_cons (wpAny_If (isTrue_not (isTrue_plain (callc_ok X GK hfn O hf hcode LO noP CF hmv g3 (g8 ▸ g6) (g10 ▸ g7) rm hfr R2 hP2 nm2 trivial (fun pos e1 e2=>codeAmong_ne (by rw [e1,e2]; exact f12) [] rfl) y1 y2 y3 k2 fun s3 am3 hp3 c3 k3 R3 hP3 nm3=>wpAny_truthy_bool ?_) (by cases g3; rfl))))
  rw [if_neg (by decide)]
  refine wpAny_execs_nil ?_
  dsimp only
  refine wpAny_execs_cons (wpAny_Return_some (wpAny_And2 (callc_ok X GK hfn O hf hcode LO noP CF hmv g4 (g9 ▸ g6) (g11 ▸ g7) rm hfr R3 hP3 nm3 trivial (fun pos e1 e2=>codeAmong_ne (by rw [e1,e2]; exact f13) [rawInt L.q2.line,rawInt L.q2.col,.ref c3] (codeAmong_ne (by rw [e1,e2]; exact f23) [] rfl)) y1 y2 y3 k3 fun s4 am4 hp4 c4 k4 R4 hP4 nm4=>wpAny_truthy_bool ?_)))
  rw [if_pos rfl]
  refine wpAny_mono ((compAll_ok X GK HC HN (.inl rfl) 100 names env.scope env O rfl).e _ _ g5 loc1 hp4 (fun v zz=>v = .bool true) noX A s4 am4 k4 rm R4) (fun v s5 z=>?_) fun zz zz z=>z.no.elim
  obtain ⟨u,hp5,am5,rfl,z2,z3,z4,z5⟩:=z
  cases z2
  exact ⟨rfl,z3.base,z5,_,z4.keep P _ hP4 List.not_mem_nil nm4⟩
end
end Mine
end
noncomputable section
namespace Mine
open PySem PySem.W PyProof.Rows
end Mine
end
noncomputable section
namespace Mine
open PySem PySem.W PyProof.Rows
theorem kinds_ok {G:Glb} {K:Frag} {p:CaughtP} {mv:Value} (hK:G.K = K) {tb:List (Nat × Nat)} (h:kindsOk K G.ws p mv tb = true) {w k:Nat} (hm:(w,k) ∈ tb) {d:Str} (hd:G.ws[k]? = some d):∀ C,ExcC G w C → OkC G.K p mv d C:=by
  subst hK
  intro C ⟨x,e1,e2⟩
  induction tb with
  | nil=>cases hm
  | cons y tb ih=>
    obtain ⟨w',k'⟩:=y
    unfold kindsOk at h
    rw [Bool.and_eq_true] at h
    rcases List.mem_cons.mp hm with e | hm
    · cases e
      have h:=h.1
      rw [e1,hd] at h
      dsimp only at h
      rw [e2] at h
      simp only [Bool.and_eq_true,beq_iff_eq] at h
      exact ⟨h.1.1.1,h.1.1.2,h.1.2,h.2⟩
    · exact ih hm h.2
structure SixOk (cx:Cx) (fa:Addr) (x:Six):Prop where
  f:CaughtF cx x.p x.fc
  l:LawF cx fa x.fc x.L x.c
  P:cx.K.lookup x.P = none
  v:clsV cx.K x.p.mill = some x.mv
  k:kindsOk cx.K cx.ws x.p x.mv x.tb = true
theorem val_of {α:Type} {P:α → Prop} {o:Option { a:α // P a }} {a:α} (h:o.map (·.1) = some a):P a:=by
  obtain ⟨x,_,rfl⟩:=map_some' h
  exact x.2
end Mine
end
noncomputable section
namespace Mine
open PySem PySem.W PyProof.Rows
structure SixA (g:Genv) (x:Six) (NR XF:List Nat) (ck mk tl nil:Nat):Prop where
  xf:∀ f ∈ XF,∃ fn,g.fn f = some fn ∧ xfS NR XF fn.body = true
  ckx:ck ∈ XF
  quiet:∀ r,Quiet (callWp g r) NR
  mkf:∃ fn s2,g.fn mk = some fn ∧ fn.body = .seq (.expr (.call ck [.loc 0])) s2 ∧ fn.np = 1 ∧ 1 ≤ fn.n
  tlf:∃ fn s2,g.fn tl = some fn ∧ fn.body = .seq (.expr (.call ck [.loc 0])) s2 ∧ fn.np = 3 ∧ 3 ≤ fn.n
  q1:x.L.q1.f = ck ∧ x.L.q1.is = [.loc 0]
  q2:x.L.q2.f = mk ∧ x.L.q2.is = [.loc 0]
  q3:x.L.q3.f = tl ∧ x.L.q3.is = [.loc 0,.int 0,.int 3]
section
variable {cx:Cx} {G:Glb} {g:Genv} {x:Six} {NR XF:List Nat} {ck mk tl nil:Nat}
theorem raises_pre (X:CxOk cx G) (GK:GG G g) (hfn:∀ f fn,g.fn f = some fn → ∃ a,cx.fnL[f]? = some a ∧ compFn cx a = some fn) (TR:∃ p loose mg mb,TopRead p loose mg mb G.base) (SA:SixA g x NR XF ck mk tl nil) {f:Nat} {vs:List V} {pv:V} {hp:Hp} {X':Nat → Hp → Prop} {k:Nat} (hv:vs.length = k) (hg:∃ fn s2,g.fn f = some fn ∧ fn.body = .seq (.expr (.call ck [.loc 0])) s2 ∧ fn.np = k ∧ k ≤ fn.n) (h0:vs[0]? = some pv)
    (h:callWp g 594 ck [pv] hp (fun zz zz=>False) X'):Raises G f vs hp X' 595:=by
  obtain ⟨fn,s2,h1,h2,h3,h4⟩:=hg
  refine raises_first (r:=594) (rn:=593) (C:=callWp g 594) (N:=callWp g 593) (NR:=NR) (XF:=XF) hfn X GK TR (call_ok X GK hfn 594) (call_ok X GK hfn 593) (.inl rfl) (callX_ok hfn X GK TR SA.xf SA.quiet 594) (SA.quiet 594) h1 h2 ?_ (hv.trans h3.symm) (h3 ▸ h4) ?_
  · show (XF.contains ck && true) = true
    rw [List.contains_iff_mem.mpr SA.ckx]; rfl
  · show onSome (Mine.getL _ 0) fun v=>callWp g 594 ck [v] hp (fun zz zz=>False) X'
    cases vs with
    | nil=>cases h0
    | cons v vs=>cases h0; exact h
theorem wl1 {C N:Oracle} {pv:V} {h:Hp} {K:List V → Hp → Prop} {X:Nat → Hp → Prop}:wpEs g C N [some pv] [.loc 0] h K X = K [pv] h:=rfl
theorem wl3 {C N:Oracle} {pv:V} {h:Hp} {K:List V → Hp → Prop} {X:Nat → Hp → Prop}:wpEs g C N [some pv] [.loc 0,.int 0,.int 3] h K X = K [pv,.int 0,.int 3] h:=rfl
theorem abs_law (X:CxOk cx G) (GK:GG G g) (hfn:∀ f fn,g.fn f = some fn → ∃ a,cx.fnL[f]? = some a ∧ compFn cx a = some fn) (TR:∃ p loose mg mb,TopRead p loose mg mb G.base) (SA:SixA g x NR XF ck mk tl nil) (hnil:G.ws[nil]? = some x.p.nil) (hws:∀ q ∈ x.tb,∃ d,G.ws[q.2]? = some d) (hk:kindsOk cx.K cx.ws x.p x.mv x.tb = true) {σ:St} (h:AbsS g x.L.jy x.L.jd nil ck mk tl x.L.i x.tb σ):LawS G g 594 x.p x.mv x.L σ:=by
  obtain ⟨a1,a2⟩:=SA.q1
  obtain ⟨b1,b2⟩:=SA.q2
  obtain ⟨c1,c2⟩:=SA.q3
  cases h with
  | good pv G2 G3 h1 h2 h3 h4 h5 h6=>
    refine ⟨pv,nil,x.p.nil,h1,h2,hnil,.good rfl ?_⟩
    rw [a1,a2,wl1]
    refine h3 _ ?_
    refine LamS.good rfl ?_
    rw [b1,b2,wl1]
    refine h4 _ fun v h2 g2=>?_
    refine LamS.good rfl ?_
    rw [c1,c2,wl3]
    exact h5 h2 g2 _ fun v h3 g3=>h6 h3 g3
  | bad pv dw wc h1 h2 h3 h4 h5 h6=>
    obtain ⟨d,hd⟩:=hws _ h3
    have ok:=kinds_ok (G:=G) X.K (by rw [X.ws]; exact hk) h3 hd
    refine ⟨pv,dw,d,h1,h2,hd,.bad ?_⟩
    rw [a1,a2,wl1]
    refine raises_mix (callX_ok hfn X GK TR SA.xf SA.quiet 595) SA.ckx (h4 _ ⟨LamS.bad ?_,ok⟩)
    rw [b1,b2,wl1]
    refine raises_pre X GK hfn TR SA (k:=1) rfl SA.mkf rfl (h5 _ ⟨LamS.bad ?_,ok⟩)
    rw [c1,c2,wl3]
    exact raises_pre X GK hfn TR SA (k:=3) (vs:=[pv,.int 0,.int 3]) rfl SA.tlf rfl (h5 _ ⟨h6,ok⟩)
end
end Mine
end
noncomputable section
namespace Mine
open PySem PySem.W PyProof.Rows
section
variable {h:Heap} {P:Addr} {ps:Array Value}
theorem ns_hide (hP:h.get? P = some (tabObj ps)) {a:Addr} {m:Str → Option Value} (n:h.Ns a m):(hideAll h [P]).Ns a m:=by
  obtain ⟨o,es,ep,e1,e2,r⟩:=n
  refine ⟨o,es,ep,hideAll_get _ e1 fun q=>?_,e2,r⟩
  rw [List.mem_singleton.mp q,hP] at e1
  cases e1
  cases e2
theorem get_hide (hP:h.get? P = some (tabObj ps)) {a:Addr} {o:Obj} (e:h.get? a = some o) (hn:∀ vs,o.data ≠ .fields vs):(hideAll h [P]).get? a = some o:=hideAll_get _ e fun q=>by
  rw [List.mem_singleton.mp q,hP] at e
  cases e
  exact hn _ rfl
end
theorem lawR_sc {cx:Cx} {names:List (Str × NameKind)} {sc sc':Scope} {fc:Addr} {L:LawP} {body:List Stmt} (h:sc' = sc) (l:LawR cx names sc fc L body):LawR cx names sc' fc L body:=by subst h; exact l
theorem law_run6 {L:Law} {prog:Program} {w:World} {K:Frag} {x:Six} {NR XF:List Nat} {ck mk tl nil:Nat} {fa scr:Addr} {vs:List Value} {ns:List Int} {s:Shared} {p:Program} {loose:List Str} {mean:ExcName → Option Value} {mg mb:Str → Option Value}
    (h:ggOk L K = true) (hf:L.fnL.map (compFn (L.cx K)) = L.fns.map some) (X:K.In s.heap) (T:Top p loose mean mg mb s.heap) (hi:importsNone p = true) (tr:prog.given.tree = none) (six:SixOk (L.cx K) fa x) (hd:CodeHd s.heap x.c x.P) (hP:s.heap.get? x.P = some (tabObj #[])) (hT:s.heap.TableAt x.c x.P #[]) (far:farOk x.L = true)
    (SA:SixA L.g x NR XF ck mk tl nil) (hnil:L.ws[nil]? = some x.p.nil) (hws:∀ q ∈ x.tb,∃ d,L.ws[q.2]? = some d) (hl:s.heap.IsList scr vs.toArray) (hin:IntsAre vs ns) (hn:ns.length ≤ 63)
    (spec:∀ KN:St → Prop,(∀ σ,AbsS L.g x.L.jy x.L.jd nil ck mk tl x.L.i x.tb σ → KN σ) → wpS L.g (callWp L.g 597) (callWp L.g 596) x.L.S ⟨[some (.ref 0),none,none,none],[.flist (ns.map .int)]⟩ KN (fun zz zz=>False) noX) :
    codeAny (model prog w) callerA (.call (.ref fa) ⟨[.ref scr],[]⟩) (fun res s'=>match res with
      | .ok (.ret v)=>v = .bool true ∧ OldK s.heap s'.heap ∧ s'.os = s.os ∧ s'.gens = s.gens
      | _=>False) s:=by
  obtain ⟨s1,⟨⟨e1,e2⟩,l2,k1,k2,k3,k4,l4,hcv⟩,s3,s4,s5⟩:=six
  have of_b:∀ b o,(hideAll s.heap [x.P]).get? b = some o → s.heap.get? b = some o:=fun b o e=>of_hideAll _ e
  have KX:K.In (hideAll s.heap [x.P]):=fun a o e=>hideAll_get _ (X a o e) fun q=>by
    rw [List.mem_singleton.mp q,show K.lookup x.P = none from s3] at e
    cases e
  have nl:(hideAll s.heap [x.P]).NoLimit:=by obtain ⟨mc,q1,q2⟩:=T.nolimit; exact ⟨mc,ns_hide hP q1,q2⟩
  have nse:(hideAll s.heap [x.P]).NoSeer:=by
    refine of_P fun PN hPN=>?_
    obtain ⟨⟨m1,a1,a2⟩,⟨m2,b1,b2⟩,⟨m3,c1,c2⟩,⟨m4,bm,ob,d1,d2,d3,d4,d5⟩⟩:=T.seer hi
    refine hPN ⟨⟨m1,ns_hide hP a1,a2⟩,⟨m2,ns_hide hP b1,b2⟩,⟨m3,ns_hide hP c1,c2⟩,⟨m4,bm,ob,ns_hide hP d1,d2,hideAll_get _ d3 fun q=>?_,d4,d5⟩⟩
    rw [List.mem_singleton.mp q,hP] at d3
    cases d3
    cases d4
  have TR:TopRead p loose mg mb (hideAll s.heap [x.P]):=⟨ns_hide hP T.g,ns_hide hP T.b,nl,T.builtins,T.free⟩
  have GK:=gg_of (w:=w) (gens:=s.gens) (os:=s.os) h KX nl nse tr ⟨_,TR.g⟩ ⟨_,TR.b,TR.builtins⟩
  have CX:CxOk (L.cx K) (L.G prog w K (hideAll s.heap [x.P]) s.gens s.os):=⟨rfl,rfl,fun zz zz e=>e,fun zz zz e=>e⟩
  have hfn:=fns_of hf
  have nscr:scr ≠ x.P:=fun q=>by
    obtain ⟨o,a1,a2,n,a3⟩:=hl
    rw [q,hP] at a1
    cases a1
    cases a3
  have rvs:∀ hh,RVs L.ws [(scr,scr)] hh (ns.map .int) vs:=fun hh=>by
    clear spec hl hn
    induction hin with
    | nil=>exact .nil
    | cons n t r ih=>exact .cons (.int n t) ih
  have LO:LamOk (L.G prog w K (hideAll s.heap [x.P]) s.gens s.os) x.c x.P:=by
    refine of_P fun PP hPP=>?_
    obtain ⟨bm,ob,b1,b2,b3,b4,b5,b6⟩:=T.bmain
    obtain ⟨oc',vs',q1,q2,q3,q4,q5,q6,q7,c1,c2⟩:=hd
    have gP:mainGlobals ≠ x.P:=fun q=>by
      obtain ⟨o,es,ep,a1,a2,_⟩:=T.g
      rw [q,hP] at a1; cases a1; cases a2
    refine hPP ⟨⟨mg,TR.g,bm,ob,b1,b2,fun q=>?_,fun q=>?_,get_hide hP b3 (fun vs z=>by rw [b6] at z; cases z),b4,b5,b6⟩,⟨oc',vs',q1,q2,q3,q4,q5,q6,q7,hideAll_get _ c1 fun q=>c2.2.2.2.2.2.2.2.2 (List.mem_singleton.mp q),c2⟩,gP,hideAll_none _ (.head _)⟩
    · obtain ⟨o,es,ep,a1,a2,_⟩:=T.g
      rw [← q,b3] at a1; cases a1; rw [a2] at b6; cases b6
    · rw [q,hP] at b3; cases b3; cases b6
  refine frame_in (r:=597) (X:=noX) (hp:=[.flist (ns.map .int)]) (am:=[(scr,scr)]) (vs:=[.ref 0]) GK e1 e2 l2 k1 k2 (by rw [k3,k4]; decide) (by rw [k3]; rfl) ⟨by decide +kernel,by decide +kernel,rfl,⟨[],rfl⟩,fun zz zz z=>z⟩ (Nat.le_of_eq (hideAll_size _ _)) ⟨rfl,by simp [AM.muts],?_,of_b⟩ ⟨rfl,rfl⟩ (.cons (.ref (a:=0) (p:=(scr,scr)) rfl) .nil) fun env s₁ I=>?_
  · intro i ob q h1 h2
    cases i with
    | succ i=>cases h1
    | zero=>
      cases h1; cases h2
      obtain ⟨o,a1,a2,n,a3⟩:=hl
      exact .flist ⟨o,get_hide hP a1 (fun vs z=>by rw [a3] at z; cases z),a2,n,a3⟩ (rvs _) (nlt (Nat.le_of_eq (List.length_map ..)) (nlt hn (by decide)))
  · have hl':=lawR_sc I.sc l4
    have noP:x.P ∉ ownA env:=fun q=>by
      have:=I.own _ q
      rw [hP] at this; cases this
    refine wpAny_mono (law_body (r:=594) (E:=fun zz zz=>False) CX GK hfn I.O I.fr (I.cd.trans hcv) LO noP s1 s4 far hl' I.rm (Around.frames_deeper rfl) I.R (I.kp _ _ hP) (fun q=>nscr (List.mem_singleton.mp q).symm) ?_) (fun f s' z=>?_) fun zz zz z=>z.elim
    · rw [k3,k4]
      exact spec _ fun σ a=>abs_law CX GK hfn ⟨_,_,_,_,TR⟩ SA hnil hws s5 a
    · obtain ⟨rfl,z2,z3,psn,z4⟩:=z
      refine ⟨rfl,⟨fun b o e=>?_,fun b o e=>?_⟩,z3.os,z3.gens⟩
      · by_cases q:b = x.P
        · subst q
          rw [hP] at e
          cases e
          exact .inr (.inl ⟨hT.isCodeTable,rfl,#[],psn,rfl,by rw [z4]; simp⟩)
        · exact .inl (z2 b o (hideAll_get _ e fun z=>q (List.mem_singleton.mp z)))
      · by_cases q:b = x.P
        · exact ⟨_,q ▸ z4⟩
        · exact ⟨o,z2 b o (hideAll_get _ e fun z=>q (List.mem_singleton.mp z))⟩
end Mine
end
noncomputable section
namespace Mine
open PySem PySem.W PyProof.Rows
noncomputable def LawIn6 (L : Law) (fa : Addr) (x : Six) (h : Heap) : Prop := ∃ K : Frag, K.In h ∧ (ggOk L K = true ∧ L.fnL.map (compFn (L.cx K)) = L.fns.map some ∧ nsIn K mainGlobals "law" = some (some (.ref fa))) ∧ SixOk (L.cx K) fa x ∧ tabIn K "law" = some (x.c, x.P)
theorem lawIn6_of {L:Law} {as:List Addr} {fa:Addr} {x:Six} {h:Heap} (e:(obsOf L (fragOf as h),obs6 L fa x (fragOf as h)) = (valOf L fa,val6 x)):LawIn6 L fa x h:=by
  have e1:=congrArg (·.1) e
  have e2:=congrArg (·.2) e
  exact ⟨fragOf as h,fragOf_in h as,⟨congrArg (·.1) e1,congrArg (·.2.1) e1,congrArg (·.2.2) e1⟩,⟨val_of (P:=fun y:CaughtP=>CaughtF (L.cx (fragOf as h)) y x.fc) (congrArg (·.1) e2),val_of (P:=fun y:LawP × Addr=>LawF (L.cx (fragOf as h)) fa x.fc y.1 y.2) (congrArg (·.2.1) e2),Option.isNone_iff_eq_none.mp (congrArg (·.2.2.1) e2),congrArg (·.2.2.2.1) e2,congrArg (·.2.2.2.2.1) e2⟩,congrArg (·.2.2.2.2.2) e2⟩
noncomputable def hook6 (L:Law) (as:List Addr) (fa:Addr) (x:Six):Hook:=
  ⟨(Bool × List (Option Fn) × Option (Option Value)) × O6,fun s=>(obsOf L (fragOf as s.heap),obs6 L fa x (fragOf as s.heap)),fun zz=>(valOf L fa,val6 x),fun zz h=>LawIn6 L fa x h,fun zz zz e=>lawIn6_of e,fun _ _ _ ⟨K,x,y⟩ k=>⟨K,Frag.In.keeps x k,y⟩⟩
theorem row_holds6 {r:OpenRow} {L:Law} {as:List Addr} {fa:Addr} {x:Six} {N:Nat} (left:LeftO r.prog (viewOf r.prog) [] (xtOf r.prog r.toRowW) (hook6 L as fa x).obs (hook6 L as fa x).val N)
    (hd : (defOf (viewOf r.prog) r.name).map (fun x => (x.1.name, some (x.1.params, x.1.body, x.1.scope), kwWritten? x.1.params.kwonlyargs x.1.params.kw_defaults, x.2)) = some (("law" : Str), r.prog.theDef r.name, some [], []))
    (hwr:(!r.writes || r.records.isEmpty) = true) (k1:r.wellSaid = true) (ok:(chainsOk (viewOf r.prog) && opensWell r.prog && (frees r.toRowW && r.within.isEmpty)) = true) (hb:r.prog.bare) (hw:r.toRowW.promised)
    (call : ∀ d : DefRec, d.name = ("law" : Str) → WalkO (viewOf r.prog) [] (XL (viewOf r.prog) []) (fun zz h => LawIn6 L fa x h) r.toRowW d [] fun f vs => PySem.call f vs) : r.Holds := by
  obtain ⟨⟨d,kwd⟩,e1,e2⟩:=Option.map_eq_some_iff.mp hd
  have z1 : d.name = ("law" : Str) := congrArg (·.1) e2
  have z2:some (d.params,d.body,d.scope) = r.prog.theDef r.name:=congrArg (·.2.1) e2
  have z3:kwWritten? d.params.kwonlyargs d.params.kw_defaults = some []:=congrArg (·.2.2.1) e2
  have z4:kwd = []:=congrArg (·.2.2.2) e2
  subst z4
  exact PySem.W.holds_open left (Hook.of (hook6 L as fa x)) (Hook.keeps (hook6 L as fa x)) (fun s e=>xl_of s (Bool.and_eq_true_iff.mp e).1) XL.keeps e1 z2.symm z3 (fun s e=>recFacts_of (Bool.and_eq_true_iff.mp e).2) hwr k1 ok hb hw (call d z1)
theorem left6 {p q:Program} {Xt:Shared → Bool} {L:Law} {as:List Addr} {fa:Addr} {x:Six} {N:Nat}
    (left:LeftO p q [] Xt (lawHook L as fa).obs (lawHook L as fa).val N)
    (h0 : ∀ w, (openT p w N).map (fun x => (goodT p x.1 x.2.abs, nsIn (fragT as x.2) mainGlobals "law")) = some (true, some (some (.ref fa))))
    (h6:∀ w,(openT p w N).map (fun z=>obs6 L fa x (fragT as z.2)) = some (val6 x)):LeftO p q [] Xt (hook6 L as fa x).obs (hook6 L as fa x).val N:=fun w=>by
  obtain ⟨⟨s₀,s⟩,hs,e0⟩:=map_some' (h0 w)
  have e1:=left w
  have e6:=h6 w
  rw [hs] at e6
  rw [openT_ends hs (Prod.mk.inj e0).1] at e1 ⊢
  have e6:obs6 L fa x (fragT as s) = val6 x:=Option.some.inj e6
  rw [← fragT_eq] at e6
  obtain ⟨a1,a2⟩:=Prod.mk.inj (Option.some.inj e1)
  show some (openSeen q [] (importedModules p.main.body) Xt true s.abs,obsOf L (fragOf as s.abs.heap),obs6 L fa x (fragOf as s.abs.heap)) = some (openGood q [],valOf L fa,val6 x)
  rw [a1,e6,show obsOf L (fragOf as s.abs.heap) = valOf L fa from a2]
end Mine
end
noncomputable section
namespace Mine
theorem eqD_of {h:Hp} {a b:V} {x y:D} (h1:rd 60 h a = some x) (h2:rd 60 h b = some y) {p:Prop} [Decidable p] (q:x = y ↔ p):eqD h a b = some (decide p):=by
  unfold eqD
  rw [h1,h2]
  by_cases z:p
  · rw [decide_eq_true z]; exact congrArg some (@decide_eq_true _ (_) (q.mpr z))
  · rw [decide_eq_false z]; exact congrArg some (@decide_eq_false _ (_) fun e=>z (q.mp e))
theorem eqop_int (a b:Int) (h:Hp):eqop (.int a) (.int b) h = some (decide (a = b)):=eqD_of (h:=h) (a:=.int a) (b:=.int b) rfl rfl ⟨fun e=>D.int.inj e,fun e=>congrArg _ e⟩
theorem eqop_str (a b:Nat) (h:Hp):eqop (.str a) (.str b) h = some (decide (a = b)):=eqD_of (h:=h) (a:=.str a) (b:=.str b) rfl rfl ⟨fun e=>D.str.inj e,fun e=>congrArg _ e⟩
theorem it_range {n:Int} {h:Hp} (e:-1000 ≤ n ∧ n ≤ lim):itop .range (.int n) h = some (rangeL 0 n.toNat,fun zz=>True):=by
  show (if -1000 ≤ n ∧ n ≤ lim ∧ (0:Int) ≤ 0 ∧ (0:Int) ≤ lim then some (rangeL 0 (n - 0).toNat,fun _:Hp=>True) else none) = _
  rw [if_pos ⟨e.1,e.2,by decide,by decide⟩,Int.sub_zero]
theorem cmp_eq (a b:V) (h:Hp):cmpop .eq a b h = eqop a b h:=rfl
theorem cmp_ne (a b:V) (h:Hp):cmpop .ne a b h = (eqop a b h).map not:=rfl
theorem bin_mul (a b:Int) (h:Hp) (q:small b = true):binop .mul (.int a) (.int b) h = some (.int (a * b),h):=if_pos (by rw [q,Bool.or_true])
theorem bin_div (a b:Int) (h:Hp) (q:b ≠ 0):binop .div (.int a) (.int b) h = some (.int (a.fdiv b),h):=if_pos q
theorem bin_mod (a b:Int) (h:Hp) (q:b ≠ 0):binop .mod (.int a) (.int b) h = some (.int (a.fmod b),h):=if_pos q
theorem bin_addl {h:Hp} {a b:Nat} {xs ys:List V} (ea:h[a]? = some (.list xs)) (eb:h[b]? = some (.list ys)) (q:xs.length + ys.length ≤ lim):binop .add (.ref a) (.ref b) h = some (.ref h.length,h ++ [.list (xs ++ ys)]):=by
  show ((h[a]?).bind O.asL).bind (fun xs=>((h[b]?).bind O.asL).bind fun ys=>if xs.length + ys.length ≤ lim then some (V.ref h.length,h ++ [O.list (xs ++ ys)]) else none) = _
  rw [ea,eb]; exact if_pos q
theorem bin_mull {h:Hp} {a:Nat} {n:Int} {xs:List V} (ea:h[a]? = some (.list xs)) (q:n.natAbs ≤ lim ∧ xs.length * n.toNat ≤ lim):binop .mul (.ref a) (.int n) h = some (.ref h.length,h ++ [.list (repL xs n.toNat)]):=by
  show ((h[a]?).bind O.asL).bind (fun xs=>if n.natAbs ≤ lim ∧ xs.length * n.toNat ≤ lim then some (V.ref h.length,h ++ [O.list (repL xs n.toNat)]) else none) = _
  rw [ea]; exact if_pos q
theorem idx_tup (xs:List V) (i:Int) (h:Hp):idxop (.tup xs) (.int i) h = seqAt xs i:=rfl
theorem ix_list {h:Hp} {a:Nat} {xs:List V} (e:h[a]? = some (.list xs)) (i:Int):idxop (.ref a) (.int i) h = seqAt xs i:=by
  show (h[a]?).bind (fun o=>idxO o (.int i)) = _
  rw [e]; rfl
theorem ix_flist {h:Hp} {a:Nat} {xs:List V} (e:h[a]? = some (.flist xs)) (i:Int):idxop (.ref a) (.int i) h = seqAt xs i:=by
  show (h[a]?).bind (fun o=>idxO o (.int i)) = _
  rw [e]; rfl
theorem bi_len {h:Hp} {a:Nat} {xs:List V} (e:h[a]? = some (.list xs)):biop .len [.ref a] h = some (.int xs.length,h):=by
  have:lenOf (.ref a) h = some xs.length:=by
    show ((h[a]?).bind O.items).map List.length = _
    rw [e]; rfl
  show (Option.bind (some (V.ref a)) fun v=>(lenOf v h).map fun n:Nat=>(V.int n,h)) = _
  rw [Option.bind_some,this]; rfl
theorem bi_flen {h:Hp} {a:Nat} {xs:List V} (e:h[a]? = some (.flist xs)):biop .len [.ref a] h = some (.int xs.length,h):=by
  have:lenOf (.ref a) h = some xs.length:=by
    show ((h[a]?).bind O.items).map List.length = _
    rw [e]; rfl
  show (Option.bind (some (V.ref a)) fun v=>(lenOf v h).map fun n:Nat=>(V.int n,h)) = _
  rw [Option.bind_some,this]; rfl
theorem step_enter {g:Genv} {C N:Oracle} {f:Nat} {fn:Fn} {vs:List V} {h:Hp} {Q:V → Hp → Prop} {X:Nat → Hp → Prop} (hf:g.fn f = some fn) (h1:vs.length = fn.np) (h2:fn.np ≤ fn.n)
    (h3:wpS g C N fn.body ⟨vs.map some ++ List.replicate (fn.n - fn.np) none,h⟩ (fun σ=>Q .none σ.hp) Q X):stepC g C N f vs h Q X:=by
  unfold stepC; rw [hf,onSome_some]; exact ⟨h1,h2,h3⟩
theorem while_ind {g:Genv} {C N:Oracle} {c:E} {b:S} {KN:St → Prop} {KR:V → Hp → Prop} {X:Nat → Hp → Prop} (I:Nat → St → Prop)
    (h:∀ n σ K',I n σ → (∀ m σ',m < n → I m σ' → K' σ') → wpE g C N σ.loc c σ.hp (fun v h=>onSome (isB v) fun r=>match r with
      | true=>wpS g C N b ⟨σ.loc,h⟩ K' KR X
      | false=>KN ⟨σ.loc,h⟩) X):∀ n σ,I n σ → wpS g C N (.while_ c b) σ KN KR X:=by
  intro n σ hi
  rw [wS_while_]
  intro P hP
  induction n using Nat.strongRecOn generalizing σ with
  | _ n ih=>exact hP σ (h n σ P hi fun m σ' hm hi'=>ih m hm σ' hi')
end Mine
end
noncomputable section
namespace Mine
noncomputable abbrev Cell:=Nat × O
structure Own (b:Nat) (h:Hp) (L:List Cell):Prop where
  nd:(L.map (·.1)).Nodup
  at_:∀ x ∈ L,h[x.1]? = some x.2
  ge:∀ x ∈ L,b ≤ x.1
  bl:b ≤ h.length
theorem get_lt {h:Hp} {a:Nat} {o:O} (e:h[a]? = some o):a < h.length:=by obtain ⟨z,_⟩:=List.getElem?_eq_some_iff.mp e; exact z
theorem Own.nil {b:Nat} {h:Hp} (e:b ≤ h.length):Own b h []:=⟨List.nodup_nil,fun zz z=>(by cases z),fun zz z=>(by cases z),e⟩
theorem Own.get {b:Nat} {h:Hp} {L:List Cell} (w:Own b h L) {i:Nat} {a:Nat} {o:O} (e:L[i]? = some (a,o)):h[a]? = some o:=w.at_ _ (List.mem_of_getElem? e)
theorem Own.lt {b:Nat} {h:Hp} {L:List Cell} (w:Own b h L) {i:Nat} {a:Nat} {o:O} (e:L[i]? = some (a,o)):a < h.length:=get_lt (w.get e)
theorem Own.geq {b:Nat} {h:Hp} {L:List Cell} (w:Own b h L) {i:Nat} {a:Nat} {o:O} (e:L[i]? = some (a,o)):b ≤ a:=w.ge _ (List.mem_of_getElem? e)
theorem Own.ne {b:Nat} {h:Hp} {L:List Cell} (w:Own b h L) {i j:Nat} {x y:Cell} (ei:L[i]? = some x) (ej:L[j]? = some y) (hij:i ≠ j):x.1 ≠ y.1:=by
  intro e
  have h1:(L.map (·.1))[i]? = some x.1:=by rw [List.getElem?_map,ei]; rfl
  have h2:(L.map (·.1))[j]? = some x.1:=by rw [List.getElem?_map,ej,e]; rfl
  obtain ⟨l1,g1⟩:=List.getElem?_eq_some_iff.mp h1
  obtain ⟨l2,g2⟩:=List.getElem?_eq_some_iff.mp h2
  have nd:=List.pairwise_iff_getElem.mp w.nd
  rcases Nat.lt_or_gt_of_ne hij with q | q
  · exact nd i j l1 l2 q (g1.trans g2.symm)
  · exact nd j i l2 l1 q (g2.trans g1.symm)
theorem Own.set {b:Nat} {h:Hp} {L:List Cell} (w:Own b h L) (i:Nat) {a:Nat} {o:O} (e:L[i]? = some (a,o)) (o':O):Own b (h.set a o') (L.set i (a,o')):=by
  have hm:(L.set i (a,o')).map (·.1) = L.map (·.1):=by
    rw [List.map_set]
    apply List.ext_getElem?
    intro j
    rw [List.getElem?_set]
    split
    · rename_i q
      subst q
      split
      · rw [List.getElem?_map,e]; rfl
      · rename_i q; rw [List.getElem?_eq_none (by (exact Nat.le_of_not_lt ‹_›))]
    · rfl
  refine ⟨by rw [hm]; exact w.nd,fun x hx=>?_,fun x hx=>?_,by rw [List.length_set]; exact w.bl⟩
  · obtain ⟨j,hj⟩:=List.mem_iff_getElem?.mp hx
    rw [List.getElem?_set] at hj
    split at hj
    · split at hj
      · cases hj; exact List.getElem?_set_self (w.lt e)
      · cases hj
    · rename_i q
      have:=w.ne e hj q
      rw [List.getElem?_set_ne this]
      exact w.at_ _ (List.mem_of_getElem? hj)
  · have:x.1 ∈ L.map (·.1):=by rw [← hm]; exact List.mem_map_of_mem hx
    obtain ⟨y,hy,ey⟩:=List.mem_map.mp this
    rw [← ey]; exact w.ge y hy
theorem Own.alloc {b:Nat} {h:Hp} {L:List Cell} (w:Own b h L) (o:O):Own b (h ++ [o]) ((h.length,o) :: L):=by
  refine ⟨?_,fun x hx=>?_,fun x hx=>?_,by simp only [List.length_append,List.length_cons,List.length_nil]; have:=w.bl; (exact Nat.le_succ_of_le ‹_›)⟩
  · simp only [List.map_cons,List.nodup_cons]
    refine ⟨fun q=>?_,w.nd⟩
    obtain ⟨y,hy,ey⟩:=List.mem_map.mp q
    have:=get_lt (w.at_ y hy)
    (first | lia | omega)
  · cases hx with
    | head=>simp
    | tail _ hx=>rw [List.getElem?_append_left (get_lt (w.at_ x hx))]; exact w.at_ x hx
  · cases hx with
    | head=>exact w.bl
    | tail _ hx=>exact w.ge x hx
theorem Own.perm {b:Nat} {h:Hp} {L L':List Cell} (w:Own b h L) (p:L.Perm L'):Own b h L':=
  ⟨(p.map (·.1)).nodup_iff.mp w.nd,fun x hx=>w.at_ x (p.mem_iff.mpr hx),fun x hx=>w.ge x (p.mem_iff.mpr hx),w.bl⟩
theorem Own.sub {b:Nat} {h:Hp} {L L':List Cell} (w:Own b h L) (p:L'.Sublist L):Own b h L':=
  ⟨(p.map (·.1)).nodup w.nd,fun x hx=>w.at_ x (p.subset hx),fun x hx=>w.ge x (p.subset hx),w.bl⟩
noncomputable def Keep (b:Nat) (h h':Hp):Prop:=h.length ≤ h'.length ∧ ∀ a,a < b → h'[a]? = h[a]?
theorem Keep.refl (b:Nat) (h:Hp):Keep b h h:=⟨Nat.le_refl _,fun zz zz=>rfl⟩
theorem Keep.trans {b:Nat} {h h1 h2:Hp} (x:Keep b h h1) (y:Keep b h1 h2):Keep b h h2:=⟨nlt x.1 y.1,fun a e=>(y.2 a e).trans (x.2 a e)⟩
theorem Keep.set {b:Nat} {h h':Hp} (x:Keep b h h') {a:Nat} (e:b ≤ a) (o:O):Keep b h (h'.set a o):=
  ⟨by rw [List.length_set]; exact x.1,fun c hc=>by rw [List.getElem?_set_ne (by (first | lia | omega))]; exact x.2 c hc⟩
theorem Keep.app {b:Nat} {h h':Hp} (x:Keep b h h') (e:b ≤ h.length) (o:O):Keep b h (h' ++ [o]):=
  ⟨by rw [List.length_append]; have:=x.1; (exact Nat.le_succ_of_le ‹_›),fun c hc=>by rw [List.getElem?_append_left (by have:=x.1; (first | lia | omega))]; exact x.2 c hc⟩
theorem Keep.mono {b c:Nat} {h h':Hp} (x:Keep b h h') (e:c ≤ b):Keep c h h':=⟨x.1,fun a ha=>x.2 a (by (exact Nat.lt_of_lt_of_le ‹_› ‹_›))⟩
theorem seqAt_nat {xs:List V} {i:Int} (h:0 ≤ i):seqAt xs i = xs[i.toNat]?:=by unfold seqAt; rw [if_pos h]
end Mine
end
noncomputable section
namespace Mine
noncomputable def pcmp (op:C2) (a b:V):Option Bool:=match op with
  | .eq=>match a with
    | .int x=>b.asInt.bind fun y=>some (decide (x = y))
    | .str x=>b.asStr.bind fun y=>some (decide (x = y))
    | _=>none
  | .ne=>match a with
    | .int x=>b.asInt.bind fun y=>some (!decide (x = y))
    | .str x=>b.asStr.bind fun y=>some (!decide (x = y))
    | _=>none
  | .lt=>a.asInt.bind fun x=>b.asInt.bind fun y=>some (decide (x < y))
  | .le=>a.asInt.bind fun x=>b.asInt.bind fun y=>some (decide (x ≤ y))
  | .gt=>a.asInt.bind fun x=>b.asInt.bind fun y=>some (decide (y < x))
  | .ge=>a.asInt.bind fun x=>b.asInt.bind fun y=>some (decide (y ≤ x))
  | .is_=>if isNil b = true then nilOf a else none
  | .isnot=>if isNil b = true then (nilOf a).map not else none
  | .in_=>b.asTup.bind (inS a)
noncomputable def pint (op:B2) (x y:Int):Option V:=match op with
  | .add=>some (.int (x + y))
  | .sub=>some (.int (x - y))
  | .mul=>none
  | .div=>if y ≠ 0 then some (.int (x.fdiv y)) else none
  | .mod=>if y ≠ 0 then some (.int (x.fmod y)) else none
noncomputable def litE:E → Option Int
  | .int i=>some i
  | _=>none
noncomputable def pbin (op:B2) (a b:E) (x y:Int):Option V:=match op with
  | .mul=>match litE b with
    | some k=>if small k = true ∧ k = y then some (.int (x * k)) else none
    | none=>(litE a).bind fun k=>if small k = true ∧ k = x then some (.int (k * y)) else none
  | op=>pint op x y
noncomputable def pbi (b:Bi) (v:V):Option V:=match b with
  | .len=>v.asTup.bind fun xs=>some (.int xs.length)
  | .int=>(intOf v).bind fun i=>some (.int i)
  | _=>none
noncomputable def pisi (v:V) (t:Ty):Option Bool:=isiop v t []
mutual
noncomputable def pv (loc:Locs):E → Option V
  | .none=>some .none
  | .bool b=>some (.bool b)
  | .int i=>some (.int i)
  | .str w=>some (.str w)
  | .loc i=>getL loc i
  | .bin op a b=>(pv loc a).bind fun x=>(pv loc b).bind fun y=>x.asInt.bind fun i=>y.asInt.bind fun j=>pbin op a b i j
  | .not_ a=>(pv loc a).bind fun x=>x.asBool.bind fun b=>some (.bool (!b))
  | .cmp op a b=>(pv loc a).bind fun x=>(pv loc b).bind fun y=>(pcmp op x y).map .bool
  | .and_ a b=>(pv loc a).bind fun x=>(pv loc b).bind fun y=>x.asBool.bind fun p=>y.asBool.bind fun q=>some (.bool (p && q))
  | .or_ a b=>(pv loc a).bind fun x=>(pv loc b).bind fun y=>x.asBool.bind fun p=>y.asBool.bind fun q=>some (.bool (p || q))
  | .tup es=>(pvs loc es).map .tup
  | .idx a i=>(pv loc a).bind fun x=>(pv loc i).bind fun y=>x.asTup.bind fun xs=>y.asInt.bind fun k=>seqAt xs k
  | .bi b es=>(pvs loc es).bind fun vs=>(arg1 vs).bind fun v=>pbi b v
  | .isi a t=>(pv loc a).bind fun x=>(pisi x t).map .bool
  | _=>none
noncomputable def pvs (loc:Locs):List E → Option (List V)
  | []=>some []
  | e :: es=>(pv loc e).bind fun v=>(pvs loc es).bind fun vs=>some (v :: vs)
end
theorem pcmp_ok {op:C2} {a b:V} {r:Bool} (e:pcmp op a b = some r) (h:Hp):cmpop op a b h = some r:=by
  cases op with
  | eq=>
    cases a with
    | int x=>obtain ⟨y,e1,e2⟩:=bind_some e; cases e2; rw [asInt_some e1,cmp_eq,eqop_int]
    | str x=>obtain ⟨y,e1,e2⟩:=bind_some e; cases e2; rw [asStr_some e1,cmp_eq,eqop_str]
    | _=>cases e
  | ne=>
    cases a with
    | int x=>obtain ⟨y,e1,e2⟩:=bind_some e; cases e2; rw [asInt_some e1,cmp_ne,eqop_int]; rfl
    | str x=>obtain ⟨y,e1,e2⟩:=bind_some e; cases e2; rw [asStr_some e1,cmp_ne,eqop_str]; rfl
    | _=>cases e
  | in_=>
    obtain ⟨xs,e1,e2⟩:=bind_some e
    rw [asTup_some e1]; exact e2
  | is_=>exact e
  | isnot=>exact e
  | _=>
    obtain ⟨x,e1,e⟩:=bind_some e
    obtain ⟨y,e2,e⟩:=bind_some e
    cases e
    rw [asInt_some e1,asInt_some e2]; rfl
theorem pbin_ok {op:B2} {a b:E} {x y:Int} {v:V} (e:pbin op a b x y = some v) (h:Hp):binop op (.int x) (.int y) h = some (v,h):=by
  cases op with
  | add=>cases e; rfl
  | sub=>cases e; rfl
  | mul=>
    change (match litE b with | some k=>if small k = true ∧ k = y then some (.int (x * k)) else none | none=>(litE a).bind fun k=>if small k = true ∧ k = x then some (.int (k * y)) else none) = some v at e
    cases hb:litE b with
    | some k=>
      rw [hb] at e
      obtain ⟨⟨h1,rfl⟩,h2⟩:=if_some e
      cases h2
      exact if_pos (by rw [h1,Bool.or_true])
    | none=>
      rw [hb] at e
      obtain ⟨k,_,e⟩:=bind_some e
      obtain ⟨⟨h1,rfl⟩,h2⟩:=if_some e
      cases h2
      exact if_pos (by rw [h1,Bool.true_or])
  | div=>obtain ⟨h1,h2⟩:=if_some (show (if y ≠ 0 then some (V.int (x.fdiv y)) else none) = some v from e); cases h2; exact bin_div _ _ _ h1
  | mod=>obtain ⟨h1,h2⟩:=if_some (show (if y ≠ 0 then some (V.int (x.fmod y)) else none) = some v from e); cases h2; exact bin_mod _ _ _ h1
theorem pisi_ok {v:V} {t:Ty} {r:Bool} (e:pisi v t = some r) (h:Hp):isiop v t h = some r:=by
  cases v with
  | ref a=>cases e
  | _=>exact e
theorem pbi_ok {b:Bi} {v w:V} (e:pbi b v = some w) (h:Hp):biop b [v] h = some (w,h):=by
  cases b with
  | len=>obtain ⟨xs,e1,e2⟩:=bind_some e; cases e2; rw [asTup_some e1]; rfl
  | int=>
    obtain ⟨i,e1,e2⟩:=bind_some e
    cases e2
    show ((intOf v).map fun i=>(V.int i,h)) = _
    rw [e1]; rfl
  | _=>cases e
section
variable {g:Genv} {C N:Oracle} {loc:Locs} {h:Hp} {X:Nat → Hp → Prop}
mutual
theorem pv_ok:∀ (e:E) {v:V} {Q:V → Hp → Prop},pv loc e = some v → Q v h → wpE g C N loc e h Q X
  | .none,_,_,e,q=>by cases e; exact q
  | .bool b,_,_,e,q=>by cases e; exact q
  | .int i,_,_,e,q=>by cases e; exact q
  | .str w,_,_,e,q=>by cases e; exact q
  | .loc i,_,Q,e,q=>(congrArg (onSome · fun v=>Q v h) (show getL loc i = _ from e)).mpr q
  | .bin op a b,v,Q,e,q=>by
    obtain ⟨x,e1,e⟩:=bind_some e
    obtain ⟨y,e2,e⟩:=bind_some e
    obtain ⟨i,e3,e⟩:=bind_some e
    obtain ⟨j,e4,e⟩:=bind_some e
    refine pv_ok a e1 (pv_ok b e2 ?_)
    rw [asInt_some e3,asInt_some e4,pbin_ok e h]; exact q
  | .not_ a,v,Q,e,q=>by
    obtain ⟨x,e1,e⟩:=bind_some e
    obtain ⟨y,e2,e⟩:=bind_some e
    cases e
    refine pv_ok a e1 ?_
    rw [asBool_some e2]; exact q
  | .cmp op a b,v,Q,e,q=>by
    obtain ⟨x,e1,e⟩:=bind_some e
    obtain ⟨y,e2,e⟩:=bind_some e
    obtain ⟨i,e3,rfl⟩:=map_some' e
    refine pv_ok a e1 (pv_ok b e2 ?_)
    rw [pcmp_ok e3]; exact q
  | .and_ a b,v,Q,e,q=>by
    obtain ⟨x,e1,e⟩:=bind_some e
    obtain ⟨y,e2,e⟩:=bind_some e
    obtain ⟨i,e3,e⟩:=bind_some e
    obtain ⟨j,e4,e⟩:=bind_some e
    cases e
    refine pv_ok a e1 ?_
    rw [asBool_some e3]
    cases i with
    | true=>refine pv_ok b e2 ?_; rw [asBool_some e4]; exact q
    | false=>exact q
  | .or_ a b,v,Q,e,q=>by
    obtain ⟨x,e1,e⟩:=bind_some e
    obtain ⟨y,e2,e⟩:=bind_some e
    obtain ⟨i,e3,e⟩:=bind_some e
    obtain ⟨j,e4,e⟩:=bind_some e
    cases e
    refine pv_ok a e1 ?_
    rw [asBool_some e3]
    cases i with
    | false=>refine pv_ok b e2 ?_; rw [asBool_some e4]; exact q
    | true=>exact q
  | .tup es,v,Q,e,q=>by
    obtain ⟨vs,e1,rfl⟩:=map_some' e
    exact pvs_ok es e1 q
  | .idx a i,v,Q,e,q=>by
    obtain ⟨x,e1,e⟩:=bind_some e
    obtain ⟨y,e2,e⟩:=bind_some e
    obtain ⟨xs,e3,e⟩:=bind_some e
    obtain ⟨k,e4,e⟩:=bind_some e
    refine pv_ok a e1 (pv_ok i e2 ?_)
    rw [asTup_some e3,asInt_some e4,idx_tup,e]; exact q
  | .bi b es,v,Q,e,q=>by
    obtain ⟨vs,e1,e⟩:=bind_some e
    obtain ⟨x,e2,e⟩:=bind_some e
    refine pvs_ok es e1 ?_
    rw [arg1_some e2,pbi_ok e]; exact q
  | .isi a t,v,Q,e,q=>by
    obtain ⟨x,e1,e⟩:=bind_some e
    obtain ⟨y,e2,rfl⟩:=map_some' e
    refine pv_ok a e1 ?_
    rw [pisi_ok e2]; exact q
  | .cmp2 _ _ _ _ _,_,_,e,_=>by cases e
  | .lst _,_,_,e,_=>by cases e
  | .slc _ _ _,_,_,e,_=>by cases e
  | .attr _ _,_,_,e,_=>by cases e
  | .call _ _,_,_,e,_=>by cases e
  | .new _ _,_,_,e,_=>by cases e
  | .meth _ _ _,_,_,e,_=>by cases e
  | .comp _ _ _ _ _ _ _,_,_,e,_=>by cases e
theorem pvs_ok:∀ (es:List E) {vs:List V} {Q:List V → Hp → Prop},pvs loc es = some vs → Q vs h → wpEs g C N loc es h Q X
  | [],_,_,e,q=>by cases e; exact q
  | e :: es,_,Q,eq,q=>by
    obtain ⟨x,e1,eq⟩:=bind_some eq
    obtain ⟨xs,e2,eq⟩:=bind_some eq
    cases eq
    exact pv_ok e e1 (pvs_ok es (Q:=fun vs h2=>Q (x :: vs) h2) e2 q)
end
end
end Mine
end
noncomputable section
namespace Mine
structure Cz where
  g:Genv
  C:Oracle
  N:Oracle
  X:Nat → Hp → Prop
noncomputable def Is (c:Cz) (g:Genv) (r:Nat) (X:Nat → Hp → Prop):Prop:=c = ⟨g,callWp g (r + 1),callWp g r,X⟩
noncomputable abbrev KE:=V → Hp → Prop
noncomputable abbrev KL:=List V → Hp → Prop
noncomputable abbrev KS:=Locs → Hp → Prop
noncomputable def WE (c:Cz) (loc:Locs) (e:E) (h:Hp) (Q:KE):Prop:=wpE c.g c.C c.N loc e h Q c.X
noncomputable def WL (c:Cz) (loc:Locs) (es:List E) (h:Hp) (Q:KL):Prop:=wpEs c.g c.C c.N loc es h Q c.X
noncomputable def WS (c:Cz) (s:S) (loc:Locs) (h:Hp) (KN:KS) (KR:KE):Prop:=wpS c.g c.C c.N s ⟨loc,h⟩ (fun σ=>KN σ.loc σ.hp) KR c.X
noncomputable def Ats (g:Genv) (p:Nat → Nat → Bool):Prop:=∀ c f,p c f = true → g.at_ c f = true
noncomputable def Mts (g:Genv) (p:Nat → Nat → Option Nat):Prop:=∀ c m f,p c m = some f → g.meth c m = some f
noncomputable def brB (v:V) (A B:Prop):Prop:=onSome (isB v) fun r=>match r with | true=>A | false=>B
noncomputable def on2 (o:Option (V × Hp)) (Q:KE):Prop:=onSome o fun p=>Q p.1 p.2
noncomputable def kBin2 (op:B2) (va:V) (Q:KE):KE:=fun vb h=>on2 (binop op va vb h) Q
noncomputable abbrev kBin1 (c:Cz) (loc:Locs) (op:B2) (b:E) (Q:KE):KE:=fun va h=>WE c loc b h (kBin2 op va Q)
noncomputable def kCmp2 (op:C2) (va:V) (Q:KE):KE:=fun vb h=>onSome (cmpop op va vb h) fun r=>Q (.bool r) h
noncomputable abbrev kCmp1 (c:Cz) (loc:Locs) (op:C2) (b:E) (Q:KE):KE:=fun va h=>WE c loc b h (kCmp2 op va Q)
noncomputable def kChn2 (c:Cz) (loc:Locs) (o1 o2:C2) (d:E) (va:V) (Q:KE):KE:=fun vb h=>onSome (cmpop o1 va vb h) fun r=>match r with | false=>Q (.bool false) h | true=>WE c loc d h (kCmp2 o2 vb Q)
noncomputable abbrev kChn1 (c:Cz) (loc:Locs) (o1 o2:C2) (b d:E) (Q:KE):KE:=fun va h=>WE c loc b h (kChn2 c loc o1 o2 d va Q)
noncomputable def kNot (Q:KE):KE:=fun v h=>onSome (isB v) fun b=>Q (.bool (!b)) h
noncomputable abbrev kAnd (c:Cz) (loc:Locs) (b:E) (Q:KE):KE:=fun v h=>brB v (WE c loc b h Q) (Q (.bool false) h)
noncomputable abbrev kOr (c:Cz) (loc:Locs) (b:E) (Q:KE):KE:=fun v h=>brB v (Q (.bool true) h) (WE c loc b h Q)
noncomputable abbrev kTup (Q:KE):KL:=fun vs h=>Q (.tup vs) h
noncomputable def kLst (Q:KE):KL:=fun vs h=>Q (.ref h.length) (h ++ [.list vs])
noncomputable def kIdx2 (va:V) (Q:KE):KE:=fun vi h=>onSome (idxop va vi h) fun v=>Q v h
noncomputable abbrev kIdx1 (c:Cz) (loc:Locs) (i:E) (Q:KE):KE:=fun va h=>WE c loc i h (kIdx2 va Q)
noncomputable def kSlc3 (va vl:V) (Q:KE):KE:=fun vh h=>on2 (slcop va vl vh h) Q
noncomputable abbrev kSlc2 (c:Cz) (loc:Locs) (hi:E) (va:V) (Q:KE):KE:=fun vl h=>WE c loc hi h (kSlc3 va vl Q)
noncomputable abbrev kSlc1 (c:Cz) (loc:Locs) (lo hi:E) (Q:KE):KE:=fun va h=>WE c loc lo h (kSlc2 c loc hi va Q)
noncomputable def kAttr (c:Cz) (f:Nat) (Q:KE):KE:=fun va h=>match va with
  | .ref x=>match h[x]? with
    | some (.inst cl fs)=>c.g.at_ cl f = true ∧ onSome (getK fs f) fun v=>Q v h
    | _=>False
  | _=>False
noncomputable def kCall (c:Cz) (f:Nat) (Q:KE):KL:=fun vs h=>c.C f vs h Q c.X
noncomputable def kNewQ (a:Nat) (Q:KE):KE:=fun v h=>v = .none ∧ Q (.ref a) h
noncomputable def kNew (c:Cz) (cl:Nat) (Q:KE):KL:=fun vs h=>onSome (c.g.init cl) fun f=>c.N f (.ref h.length :: vs) (h ++ [.inst cl []]) (kNewQ h.length Q) c.X
noncomputable def kSelf (c:Cz) (f x:Nat) (Q:KE):KL:=fun vs h=>c.C f (.ref x :: vs) h Q c.X
noncomputable def kApp (x:Nat) (Q:KE):KL:=fun vs h=>match vs with
  | [v]=>match h[x]? with
    | some (.list ys)=>ys.length < lim ∧ Q .none (h.set x (.list (ys ++ [v])))
    | _=>False
  | _=>False
noncomputable def kMeth (c:Cz) (loc:Locs) (m:Nat) (es:List E) (Q:KE):KE:=fun va h=>match va with
  | .ref x=>match h[x]? with
    | some (.inst cl _)=>onSome (c.g.meth cl m) fun f=>WL c loc es h (kSelf c f x Q)
    | some (.list xs)=>match es.isEmpty with
      | true=>m = mPop ∧ onSome xs.getLast? fun v=>Q v (h.set x (.list xs.dropLast))
      | false=>m = mAppend ∧ WL c loc es h (kApp x Q)
    | _=>False
  | _=>False
noncomputable def kBi (b:Bi) (Q:KE):KL:=fun vs h=>on2 (biop b vs h) Q
noncomputable def kIsi (t:Ty) (Q:KE):KE:=fun v h=>onSome (isiop v t h) fun b=>Q (.bool b) h
noncomputable abbrev kCs2 (v:V) (Q:KL):KL:=fun vs h=>Q (v :: vs) h
noncomputable abbrev kCs1 (c:Cz) (loc:Locs) (es:List E) (Q:KL):KE:=fun v h=>WL c loc es h (kCs2 v Q)
noncomputable abbrev kEnd (Q:KE):KS:=fun zz h=>Q .none h
noncomputable abbrev kSeq (c:Cz) (b:S) (KN:KS) (KR:KE):KS:=fun l h=>WS c b l h KN KR
noncomputable abbrev kExp (loc:Locs) (KN:KS):KE:=fun zz h=>KN loc h
noncomputable def kAsl (loc:Locs) (i:Nat) (KN:KS):KE:=fun v h=>i < loc.length ∧ KN (loc.set i (some v)) h
noncomputable def kTga (c:Cz) (loc:Locs) (f:Nat) (v:V) (KN:KS):KE:=fun va h=>match va with
  | .ref x=>match h[x]? with
    | some (.inst cl fs)=>c.g.at_ cl f = true ∧ fs.length < 400 ∧ KN loc (h.set x (.inst cl (putK fs f v)))
    | _=>False
  | _=>False
noncomputable abbrev kAsa (c:Cz) (loc:Locs) (a:E) (f:Nat) (KN:KS):KE:=fun v h=>WE c loc a h (kTga c loc f v KN)
noncomputable def kTgi2 (loc:Locs) (v va:V) (KN:KS):KE:=fun vi h=>onSome va.asRef fun x=>onSome ((h[x]?).bind fun o=>setO o vi v) fun o'=>KN loc (h.set x o')
noncomputable abbrev kTgi1 (c:Cz) (loc:Locs) (i:E) (v:V) (KN:KS):KE:=fun va h=>WE c loc i h (kTgi2 loc v va KN)
noncomputable abbrev kAsi (c:Cz) (loc:Locs) (a i:E) (KN:KS):KE:=fun v h=>WE c loc a h (kTgi1 c loc i v KN)
noncomputable def kAsu (loc:Locs) (is:List Nat) (KN:KS):KE:=fun v h=>onSome (v.asTup.bind fun vs=>bindAll is vs loc) fun l=>KN l h
noncomputable abbrev kIf (c:Cz) (loc:Locs) (a b:S) (KN:KS) (KR:KE):KE:=fun v h=>brB v (WS c a loc h KN KR) (WS c b loc h KN KR)
noncomputable def kFor (c:Cz) (t:List Nat) (ik:ItK) (b:S) (loc:Locs) (KN:KS) (KR:KE):KE:=fun v h=>onSome (itop ik v h) fun p=>
  forWp p.2 (fun x σ K=>onSome (bindT t x σ.loc) fun l=>wpS c.g c.C c.N b ⟨l,σ.hp⟩ K KR c.X) p.1 ⟨loc,h⟩ (fun σ=>KN σ.loc σ.hp)
noncomputable def WC (c:Cz) (loc:Locs) (es:List E) (h:Hp) (Q:Bool → Hp → Prop):Prop:=wpC c.g c.C c.N loc es h Q c.X
noncomputable def cStep (c:Cz) (t:List Nat) (conds:List E) (elt:E):V → Locs → Hp → (Locs → List V → Hp → Prop) → Prop:=fun x l h2 K=>onSome (bindT t x l) fun l1=>wpC c.g c.C c.N l1 conds h2 (fun b h3=>match b with
    | true=>wpE c.g c.C c.N l1 elt h3 (fun y h4=>K l1 [y] h4) c.X
    | false=>K l1 [] h3) c.X
noncomputable def kComp (c:Cz) (n:Nat) (cap:List (Nat × Nat)) (t:List Nat) (ik:ItK) (conds:List E) (elt:E) (loc:Locs) (Q:KE):KE:=fun v h=>onSome (itop ik v h) fun p=>onSome (capL cap loc (List.replicate n none)) fun l0=>
  compWp p.2 (cStep c t conds elt) p.1 l0 [] h (fun ys h5=>Q (.ref h5.length) (h5 ++ [.list ys]))
section
variable {c:Cz} {loc:Locs} {h:Hp} {Q:KE} {KN:KS} {KR:KE}
theorem enter {g:Genv} {r f:Nat} {fn:Fn} {vs:List V} {X:Nat → Hp → Prop} {b:S} (hf:g.fn f = some fn) (hb:fn.body = b) (h1:vs.length = fn.np) (h2:Nat.ble fn.np fn.n = true) (hl:vs.map some ++ List.replicate (fn.n - fn.np) none = loc)
    (k:∀ c,Is c g r X → WS c b loc h (kEnd Q) Q):callWp g (r + 2) f vs h Q X:=by
  subst hl; subst hb
  exact step_enter hf h1 (Nat.le_of_ble_eq_true h2) (k ⟨g,callWp g (r + 1),callWp g r,X⟩ rfl)
theorem onS {α:Type} {o:Option α} {a:α} {K:α → Prop} (e:o = some a) (k:K a):onSome o K:=by rw [e]; exact k
theorem on2S {o:Option (V × Hp)} {v:V} {h':Hp} (e:o = some (v,h')) (k:Q v h'):on2 o Q:=by rw [e]; exact k
theorem b_t {b:Bool} {A B:Prop} (e:b = true) (k:A):brB (.bool b) A B:=by subst e; exact k
theorem b_f {b:Bool} {A B:Prop} (e:b = false) (k:B):brB (.bool b) A B:=by subst e; exact k
theorem b_d {p:Prop} [Decidable p] {A B:Prop} (k1:p → A) (k2:¬ p → B):brB (.bool (decide p)) A B:=by
  by_cases c:p
  · exact b_t (decide_eq_true c) (k1 c)
  · exact b_f (decide_eq_false c) (k2 c)
theorem b_c {b:Bool} {A B:Prop} (k1:b = true → A) (k2:b = false → B):brB (.bool b) A B:=by
  cases b with
  | true=>exact k1 rfl
  | false=>exact k2 rfl
theorem ite_i {α:Type} {c:Prop} [Decidable c] {a b:α} {P:α → Prop} (h1:c → P a) (h2:¬ c → P b):P (if c then a else b):=by
  by_cases h:c
  · rw [if_pos h]; exact h1 h
  · rw [if_neg h]; exact h2 h
theorem e_p {e:E} {v:V} (e1:pv loc e = some v) (k:Q v h):WE c loc e h Q:=pv_ok e e1 k
theorem l_p {es:List E} {vs:List V} {Q:KL} (e1:pvs loc es = some vs) (k:Q vs h):WL c loc es h Q:=pvs_ok es e1 k
noncomputable abbrev nxE (c:Cz) (loc:Locs) (e:E) (h:Hp) (Q:KE):Prop:=match e with
  | .bin op a b=>WE c loc a h (kBin1 c loc op b Q)
  | .not_ a=>WE c loc a h (kNot Q)
  | .cmp op a b=>WE c loc a h (kCmp1 c loc op b Q)
  | .cmp2 o1 o2 a b d=>WE c loc a h (kChn1 c loc o1 o2 b d Q)
  | .and_ a b=>WE c loc a h (kAnd c loc b Q)
  | .or_ a b=>WE c loc a h (kOr c loc b Q)
  | .tup es=>WL c loc es h (kTup Q)
  | .lst es=>WL c loc es h (kLst Q)
  | .idx a i=>WE c loc a h (kIdx1 c loc i Q)
  | .slc a lo hi=>WE c loc a h (kSlc1 c loc lo hi Q)
  | .attr a f=>WE c loc a h (kAttr c f Q)
  | .call f es=>WL c loc es h (kCall c f Q)
  | .new cl es=>WL c loc es h (kNew c cl Q)
  | .meth a m es=>WE c loc a h (kMeth c loc m es Q)
  | .bi b es=>WL c loc es h (kBi b Q)
  | .isi a t=>WE c loc a h (kIsi t Q)
  | .comp n cap t k src conds elt=>WE c loc src h (kComp c n cap t k conds elt loc Q)
  | _=>False
noncomputable def isNx:E → Bool
  | .none=>false
  | .bool _=>false
  | .int _=>false
  | .str _=>false
  | .loc _=>false
  | _=>true
theorem e_nx {e:E} (_hd:isNx e = true) (k:nxE c loc e h Q):WE c loc e h Q:=by cases e <;> first | exact k | exact k.elim
theorem l_c {e:E} {es:List E} {Q:KL} (k:WE c loc e h (kCs1 c loc es Q)):WL c loc (e :: es) h Q:=k
noncomputable def WW (c:Cz) (d:E) (b:S) (loc:Locs) (h:Hp) (KN:KS) (KR:KE):Prop:=WS c (.while_ d b) loc h KN KR
noncomputable abbrev nxS (c:Cz) (s:S) (loc:Locs) (h:Hp) (KN:KS) (KR:KE):Prop:=match s with
  | .skip=>KN loc h
  | .seq a b=>WS c a loc h (kSeq c b KN KR) KR
  | .expr e=>WE c loc e h (kExp loc KN)
  | .asg t e=>match t with
    | .loc i=>WE c loc e h (kAsl loc i KN)
    | .attr a f=>WE c loc e h (kAsa c loc a f KN)
    | .idx a i=>WE c loc e h (kAsi c loc a i KN)
    | .unp is=>WE c loc e h (kAsu loc is KN)
  | .if_ d a b=>WE c loc d h (kIf c loc a b KN KR)
  | .while_ d b=>WW c d b loc h KN KR
  | .for_ t k src b=>WE c loc src h (kFor c t k b loc KN KR)
  | .ret e=>WE c loc e h KR
  | .raise x=>c.X x h
theorem s_asu {is:List Nat} {e:E} (k:WE c loc e h (kAsu loc is KN)):WS c (.asg (.unp is) e) loc h KN KR:=by
  unfold WS; rw [wS_asg]
  have eq:(fun v h1=>wpTg c.g c.C c.N ⟨loc,h1⟩ v (fun σ=>KN σ.loc σ.hp) c.X (.unp is)) = kAsu loc is KN:=by
    funext v h1; rw [wT_unp]; cases v <;> rfl
  show wpE c.g c.C c.N loc e h (fun v h1=>wpTg c.g c.C c.N ⟨loc,h1⟩ v (fun σ=>KN σ.loc σ.hp) c.X (.unp is)) c.X
  rw [eq]; exact k
theorem s_nx {s:S} (k:nxS c s loc h KN KR):WS c s loc h KN KR:=by
  cases s with
  | asg t e=>cases t with
    | unp is=>exact s_asu k
    | _=>exact k
  | _=>exact k
theorem k_not {b:Bool} (k:Q (.bool (!b)) h):kNot Q (.bool b) h:=k
theorem k_asl {v:V} {i:Nat} (hi:Nat.ble (i + 1) loc.length = true) (k:KN (loc.set i (some v)) h):kAsl loc i KN v h:=⟨Nat.le_of_ble_eq_true hi,k⟩
theorem k_asu {vs:List V} {is:List Nat} {l:Locs} (e:bindAll is vs loc = some l) (k:KN l h):kAsu loc is KN (.tup vs) h:=onS (show Option.bind (some vs) (fun vs=>bindAll is vs loc) = some l from e) k
theorem o_cmp {op:C2} {a d:V} {r:Bool} (e:pcmp op a d = some r) (k:Q (.bool r) h):kCmp2 op a Q d h:=onS (pcmp_ok e h) k
theorem o_cmpd {op:C2} {a d:V} {r:Bool} (e:cmpop op a d h = some r) (k:Q (.bool r) h):kCmp2 op a Q d h:=onS e k
theorem o_chn {o1 o2:C2} {a d:V} {x:E} {r:Bool} (e:pcmp o1 a d = some r) (k:brB (.bool r) (WE c loc x h (kCmp2 o2 d Q)) (Q (.bool false) h)):kChn2 c loc o1 o2 x a Q d h:=onS (pcmp_ok e h) (by cases r <;> exact k)
noncomputable def tix (v:V) (i:Int):Option V:=v.asTup.bind fun xs=>seqAt xs i
theorem o_tix {u:V} {i:Int} {v:V} (e:tix u i = some v) (k:Q v h):kIdx2 u Q (.int i) h:=onS (show idxop u (.int i) h = some v by obtain ⟨xs,e1,e2⟩:=bind_some e; rw [asTup_some e1]; exact e2) k
theorem o_lix {a:Nat} {xs:List V} {i:Int} {v:V} (hx:h[a]? = some (.list xs)) (e:seqAt xs i = some v) (k:Q v h):kIdx2 (.ref a) Q (.int i) h:=onS ((ix_list hx i).trans e) k
theorem o_fix {a:Nat} {xs:List V} {i:Int} {v:V} (hx:h[a]? = some (.flist xs)) (e:seqAt xs i = some v) (k:Q v h):kIdx2 (.ref a) Q (.int i) h:=onS ((ix_flist hx i).trans e) k
theorem o_bin {op:B2} {x y:Int} {v:V} (e:pint op x y = some v) (k:Q v h):kBin2 op (.int x) Q (.int y) h:=on2S (pbin_ok (a:=.none) (b:=.none) (by cases op <;> first | exact e | cases e) h) k
theorem o_mulr {x y:Int} (e:small y = true) (k:Q (.int (x * y)) h):kBin2 .mul (.int x) Q (.int y) h:=on2S (bin_mul x y h e) k
theorem o_bind {op:B2} {a d v:V} {h':Hp} (e:binop op a d h = some (v,h')) (k:Q v h'):kBin2 op a Q d h:=on2S e k
theorem o_len {a:Nat} {xs:List V} (hx:h[a]? = some (.list xs)) (k:Q (.int xs.length) h):kBi .len Q [.ref a] h:=on2S (bi_len hx) k
theorem o_flen {a:Nat} {xs:List V} (hx:h[a]? = some (.flist xs)) (k:Q (.int xs.length) h):kBi .len Q [.ref a] h:=on2S (bi_flen hx) k
theorem o_bi {b:Bi} {v w:V} (e:pbi b v = some w) (k:Q w h):kBi b Q [v] h:=on2S (pbi_ok e h) k
theorem o_bid {b:Bi} {vs:List V} {w:V} {h':Hp} (e:biop b vs h = some (w,h')) (k:Q w h'):kBi b Q vs h:=on2S e k
theorem o_isi {v:V} {t:Ty} {r:Bool} (e:pisi v t = some r) (k:Q (.bool r) h):kIsi t Q v h:=onS (pisi_ok e h) k
theorem o_slc {va vl vh v:V} {h':Hp} (e:slcop va vl vh h = some (v,h')) (k:Q v h'):kSlc3 va vl Q vh h:=on2S e k
variable {g:Genv} {r:Nat} {X:Nat → Hp → Prop}
theorem a_i {f x cl:Nat} {fs:List (Nat × V)} {v:V} (hc:Is c g r X) (hx:h[x]? = some (.inst cl fs)) (ha:g.at_ cl f = true) (hf:getK fs f = some v) (k:Q v h):kAttr c f Q (.ref x) h:=by
  subst hc; unfold kAttr; simp only [hx]; exact ⟨ha,onS hf k⟩
theorem k_call {f:Nat} {vs:List V} (hc:Is c g r X) (k:callWp g (r + 1) f vs h Q X):kCall c f Q vs h:=by subst hc; exact k
theorem k_self {f x:Nat} {vs:List V} (hc:Is c g r X) (k:callWp g (r + 1) f (.ref x :: vs) h Q X):kSelf c f x Q vs h:=by subst hc; exact k
theorem k_new {cl f:Nat} {vs:List V} (hc:Is c g r X) (hi:g.init cl = some f) (k:callWp g r f (.ref h.length :: vs) (h ++ [.inst cl []]) (kNewQ h.length Q) X):kNew c cl Q vs h:=by subst hc; exact onS hi k
theorem m_i {x cl m f:Nat} {fs:List (Nat × V)} {es:List E} (hc:Is c g r X) (hx:h[x]? = some (.inst cl fs)) (hm:g.meth cl m = some f) (k:WL c loc es h (kSelf c f x Q)):kMeth c loc m es Q (.ref x) h:=by
  subst hc; unfold kMeth; simp only [hx]; exact onS hm k
theorem m_pop {x:Nat} {xs:List V} {v:V} (hx:h[x]? = some (.list xs)) (hv:xs.getLast? = some v) (k:Q v (h.set x (.list xs.dropLast))):kMeth c loc 1 [] Q (.ref x) h:=by
  unfold kMeth; simp only [hx]; exact ⟨trivial,onS hv k⟩
theorem m_app {x:Nat} {xs:List V} {e:E} {es:List E} (hx:h[x]? = some (.list xs)) (k:WL c loc (e :: es) h (kApp x Q)):kMeth c loc 0 (e :: es) Q (.ref x) h:=by
  unfold kMeth; simp only [hx]; exact ⟨trivial,k⟩
theorem p_app {x:Nat} {ys:List V} {v:V} (hx:h[x]? = some (.list ys)) (hl:ys.length < lim) (k:Q .none (h.set x (.list (ys ++ [v])))):kApp x Q [v] h:=by
  unfold kApp; simp only [hx]; exact ⟨hl,k⟩
theorem t_a {x cl f:Nat} {fs:List (Nat × V)} {v:V} (hc:Is c g r X) (hx:h[x]? = some (.inst cl fs)) (ha:g.at_ cl f = true) (hl:Nat.ble (fs.length + 1) 400 = true) (k:KN loc (h.set x (.inst cl (putK fs f v)))):kTga c loc f v KN (.ref x) h:=by
  subst hc; unfold kTga; simp only [hx]; exact ⟨ha,Nat.le_of_ble_eq_true hl,k⟩
theorem t_l {x:Nat} {i:Int} {xs:List V} {v:V} (hx:h[x]? = some (.list xs)) (hi:0 ≤ i ∧ i < (xs.length:Int)) (k:KN loc (h.set x (.list (xs.set i.toNat v)))):kTgi2 loc v (.ref x) KN (.int i) h:=by
  refine onS rfl (onS (a:=.list (xs.set i.toNat v)) ?_ k)
  rw [hx]; show (setAt xs i v).map O.list = _; unfold setAt; rw [if_pos hi]; rfl
structure Ow (b:Nat) (h0 h:Hp) (L:List Cell):Prop where
  o:Own b h L
  k:Keep b h0 h
  l:b ≤ h0.length
variable {b:Nat} {h0 h':Hp} {L L':List Cell}
theorem Ow.get (w:Ow b h0 h L) (i:Nat) {x:Nat} {o:O} (e:L[i]? = some (x,o)):h[x]? = some o:=w.o.get e
theorem Ow.call (w:Ow b h0 h L) (z:Ow b h h' L'):Ow b h0 h' L':=⟨z.o,w.k.trans z.k,w.l⟩
theorem Ow.low (w:Ow b h0 h L) {a:Nat} {o:O} (e:a < b) (q:h0[a]? = some o):h[a]? = some o:=(w.k.2 a e).trans q
theorem Ow.start (w:Own b h L):Ow b h h L:=⟨w,.refl b h,w.bl⟩
theorem Ow.now (w:Ow b h0 h L):Ow b h h L:=.start w.o
theorem Ow.set (w:Ow b h0 h L) (i:Nat) {x:Nat} {o:O} (e:L[i]? = some (x,o)) (o':O):Ow b h0 (h.set x o') (L.set i (x,o')):=⟨w.o.set i e o',w.k.set (w.o.geq e) o',w.l⟩
theorem Ow.alloc (w:Ow b h0 h L) (o:O):Ow b h0 (h ++ [o]) ((h.length,o) :: L):=⟨w.o.alloc o,w.k.app w.l o,w.l⟩
theorem perm_front {α:Type}:∀ (l:List α) (i:Nat) (p:α),l[i]? = some p → l.Perm (p :: l.eraseIdx i)
  | [],_,_,e=>by cases e
  | x :: l,0,p,e=>by cases e; exact .refl _
  | x :: l,i + 1,p,e=>((perm_front l i p e).cons x).trans (.swap ..)
theorem Ow.front (w:Ow b h0 h L) (i:Nat) {p:Cell} (e:L[i]? = some p):Ow b h0 h (p :: L.eraseIdx i):=⟨w.o.perm (perm_front L i p e),w.k,w.l⟩
theorem Ow.drop (w:Ow b h0 h L) (i:Nat):Ow b h0 h (L.eraseIdx i):=⟨w.o.sub (List.eraseIdx_sublist ..),w.k,w.l⟩
theorem m_popO {x i:Nat} {xs:List V} {v:V} (w:Ow b h0 h L) (e:L[i]? = some (x,.list xs)) (hv:xs.getLast? = some v) (k:∀ h',Ow b h0 h' (L.set i (x,.list xs.dropLast)) → Q v h'):kMeth c loc 1 [] Q (.ref x) h:=
  m_pop (w.o.get e) hv (k _ (w.set i e _))
theorem p_appO {x i:Nat} {xs:List V} {v:V} (w:Ow b h0 h L) (e:L[i]? = some (x,.list xs)) (hl:xs.length < lim) (k:∀ h',Ow b h0 h' (L.set i (x,.list (xs ++ [v]))) → Q .none h'):kApp x Q [v] h:=
  p_app (w.o.get e) hl (k _ (w.set i e _))
theorem t_aO {x cl f i:Nat} {fs:List (Nat × V)} {v:V} (hc:Is c g r X) (w:Ow b h0 h L) (e:L[i]? = some (x,.inst cl fs)) (ha:g.at_ cl f = true) (hl:Nat.ble (fs.length + 1) 400 = true) (k:∀ h',Ow b h0 h' (L.set i (x,.inst cl (putK fs f v))) → KN loc h'):kTga c loc f v KN (.ref x) h:=
  t_a hc (w.o.get e) ha hl (k _ (w.set i e _))
theorem t_lO {x j:Nat} {i:Int} {xs:List V} {v:V} (w:Ow b h0 h L) (e:L[j]? = some (x,.list xs)) (hi:0 ≤ i ∧ i < (xs.length:Int)) (k:∀ h',Ow b h0 h' (L.set j (x,.list (xs.set i.toNat v))) → KN loc h'):kTgi2 loc v (.ref x) KN (.int i) h:=
  t_l (w.o.get e) hi (k _ (w.set j e _))
theorem l_lstO {vs:List V} (w:Ow b h0 h L) (k:∀ h' a,Ow b h0 h' ((a,.list vs) :: L) → Q (.ref a) h'):kLst Q vs h:=k _ _ (w.alloc _)
theorem o_addO {x y:Nat} {xs ys:List V} (w:Ow b h0 h L) (hx:h[x]? = some (.list xs)) (hy:h[y]? = some (.list ys)) (hl:xs.length + ys.length ≤ lim) (k:∀ h' a,Ow b h0 h' ((a,.list (xs ++ ys)) :: L) → Q (.ref a) h'):kBin2 .add (.ref x) Q (.ref y) h:=o_bind (bin_addl hx hy hl) (k _ _ (w.alloc _))
theorem for_go {t:List Nat} {bd:S} {grd:Hp → Prop} (I:List V → KS) (hn:∀ l h',I [] l h' → grd h' ∧ KN l h')
    (hs:∀ x xs l h' K,I (x :: xs) l h' → (∀ l2 h2,I xs l2 h2 → K l2 h2) → grd h' ∧ ∃ l',bindT t x l = some l' ∧ WS c bd l' h' K KR):∀ xs l h',I xs l h' →
    forWp grd (fun x σ K=>onSome (bindT t x σ.loc) fun l=>wpS c.g c.C c.N bd ⟨l,σ.hp⟩ K KR c.X) xs ⟨l,h'⟩ (fun σ=>KN σ.loc σ.hp)
  | []=>fun l h' i=>hn l h' i
  | x :: xs=>fun l h' i=>by
    obtain ⟨h1,l',h2,h3⟩:=hs x xs l h' (fun l h=>forWp grd (fun x σ K=>onSome (bindT t x σ.loc) fun l=>wpS c.g c.C c.N bd ⟨l,σ.hp⟩ K KR c.X) xs ⟨l,h⟩ (fun σ=>KN σ.loc σ.hp)) i (for_go I hn hs xs)
    exact ⟨h1,onS h2 h3⟩
theorem f_seq {t:List Nat} {bd:S} {a:Nat} {o:O} {xs:List V} (hx:h[a]? = some o) (ho:o.items = some xs) (I:List V → KS) (hi:I xs loc h) (hn:∀ l h',I [] l h' → h'[a]? = some o ∧ KN l h')
    (hs:∀ x xs l h' K,I (x :: xs) l h' → (∀ l2 h2,I xs l2 h2 → K l2 h2) → h'[a]? = some o ∧ ∃ l',bindT t x l = some l' ∧ WS c bd l' h' K KR):kFor c t .seq bd loc KN KR (.ref a) h:=by
  refine onS (a:=(xs,fun h'=>h'[a]? = some o)) ?_ (for_go I hn hs xs loc h hi)
  show ((h[a]?).bind fun o=>o.items.map fun xs=>(xs,fun h':Hp=>h'[a]? = some o)) = _
  rw [hx,Option.bind_some,ho]; rfl
theorem f_ran {t:List Nat} {bd:S} {m:Int} (hm:-1000 ≤ m ∧ m ≤ lim) (I:Nat → KS) (hi:I 0 loc h) (hn:∀ l h',I m.toNat l h' → KN l h')
    (hs:∀ k l h' K,k < m.toNat → I k l h' → (∀ l2 h2,I (k + 1) l2 h2 → K l2 h2) → ∃ l',bindT t (.int k) l = some l' ∧ WS c bd l' h' K KR):kFor c t .range bd loc KN KR (.int m) h:=by
  refine onS (it_range hm) (for_go (fun xs l h'=>∃ k,xs = rangeL (k:Nat) (m.toNat - k) ∧ k ≤ m.toNat ∧ I k l h') ?_ ?_ _ loc h ⟨0,rfl,Nat.zero_le _,hi⟩)
  · rintro l h' ⟨k,e,hk,i⟩
    cases q:m.toNat - k with
    | zero=>have:k = m.toNat:=Nat.le_antisymm hk (Nat.le_of_sub_eq_zero q); subst this; exact ⟨trivial,hn l h' i⟩
    | succ j=>rw [q] at e; cases e
  · rintro x xs l h' K ⟨k,e,hk,i⟩ hK
    cases q:m.toNat - k with
    | zero=>rw [q] at e; cases e
    | succ j=>
      rw [q] at e
      cases e
      refine ⟨trivial,hs k l h' K (Nat.lt_of_sub_eq_succ q) i fun l2 h2 i2=>hK l2 h2 ⟨k + 1,?_,Nat.lt_of_sub_eq_succ q,i2⟩⟩
      rw [show m.toNat - (k + 1) = j from congrArg Nat.pred q]; rfl
noncomputable abbrev kWh (c:Cz) (bd:S) (loc:Locs) (J KN:KS) (KR:KE):KE:=fun v h=>brB v (WS c bd loc h J KR) (KN loc h)
theorem s_wh {d:E} {bd:S} (I:Nat → KS) (n:Nat) (hi:I n loc h) (hs:∀ n l h' K,I n l h' → (∀ m l2 h2,m < n → I m l2 h2 → K l2 h2) → WE c l d h' (kWh c bd l K KN KR)):WW c d bd loc h KN KR:=
  while_ind (g:=c.g) (C:=c.C) (N:=c.N) (c:=d) (b:=bd) (KN:=fun σ=>KN σ.loc σ.hp) (KR:=KR) (X:=c.X) (fun n σ=>I n σ.loc σ.hp) (fun n σ K' hi hk=>hs n σ.loc σ.hp (fun l h=>K' ⟨l,h⟩) hi fun m l2 h2 hm i=>hk m ⟨l2,h2⟩ hm i) n ⟨loc,h⟩ hi
noncomputable abbrev kCe (l:Locs) (K:Locs → List V → Hp → Prop):KE:=fun y h=>K l [y] h
noncomputable def kCd (c:Cz) (l:Locs) (elt:E) (K:Locs → List V → Hp → Prop):Bool → Hp → Prop:=fun b h=>match b with
  | true=>WE c l elt h (kCe l K)
  | false=>K l [] h
noncomputable abbrev kC1 (c:Cz) (l:Locs) (es:List E) (K:Bool → Hp → Prop):KE:=fun v h=>brB v (WC c l es h K) (K false h)
theorem w_nil {l:Locs} {elt:E} {K:Locs → List V → Hp → Prop} (k:WE c l elt h (kCe l K)):WC c l [] h (kCd c l elt K):=k
theorem w_cons {l:Locs} {e:E} {es:List E} {K:Bool → Hp → Prop} (k:WE c l e h (kC1 c l es K)):WC c l (e :: es) h K:=k
theorem c_go {t:List Nat} {conds:List E} {elt:E} {grd:Hp → Prop} {F:List V → Hp → Prop} (I:List V → List V → KS) (hn:∀ acc l h',I [] acc l h' → grd h' ∧ F acc h')
    (hs:∀ x xs acc l h' K,I (x :: xs) acc l h' → (∀ ys l2 h2,(acc ++ ys).length ≤ lim → I xs (acc ++ ys) l2 h2 → K l2 ys h2) → grd h' ∧ ∃ l',bindT t x l = some l' ∧ WC c l' conds h' (kCd c l' elt K)):∀ xs acc l h',I xs acc l h' →
    compWp grd (cStep c t conds elt) xs l acc h' F
  | []=>fun acc l h' i=>hn acc l h' i
  | x :: xs=>fun acc l h' i=>by
    obtain ⟨h1,l',h2,h3⟩:=hs x xs acc l h' (fun l2 ys h2=>(acc ++ ys).length ≤ lim ∧ compWp grd (cStep c t conds elt) xs l2 (acc ++ ys) h2 F) i (fun ys l2 h2 hy i2=>⟨hy,c_go I hn hs xs (acc ++ ys) l2 h2 i2⟩)
    exact ⟨h1,onS h2 h3⟩
theorem it_items {a:Nat} {o:O} {xs:List V} (hx:h[a]? = some o) (ho:o.items = some xs):itop .seq (.ref a) h = some (xs,fun h'=>h'[a]? = some o):=by
  show ((h[a]?).bind fun o=>o.items.map fun xs=>(xs,fun h':Hp=>h'[a]? = some o)) = _
  rw [hx,Option.bind_some,ho]; rfl
theorem c_ran {n:Nat} {cap:List (Nat × Nat)} {t:List Nat} {conds:List E} {elt:E} {m:Int} {l0:Locs} (hm:-1000 ≤ m ∧ m ≤ lim) (hc:capL cap loc (List.replicate n none) = some l0) (I:Nat → List V → KS) (hi:I 0 [] l0 h)
    (hn:∀ acc l h',I m.toNat acc l h' → Q (.ref h'.length) (h' ++ [.list acc]))
    (hs:∀ k acc l h' K,k < m.toNat → I k acc l h' → (∀ ys l2 h2,(acc ++ ys).length ≤ lim → I (k + 1) (acc ++ ys) l2 h2 → K l2 ys h2) → ∃ l',bindT t (.int k) l = some l' ∧ WC c l' conds h' (kCd c l' elt K)):kComp c n cap t .range conds elt loc Q (.int m) h:=by
  refine onS (it_range hm) (onS hc (c_go (fun xs acc l h'=>∃ k,xs = rangeL (k:Nat) (m.toNat - k) ∧ k ≤ m.toNat ∧ I k acc l h') ?_ ?_ _ [] l0 h ⟨0,rfl,Nat.zero_le _,hi⟩))
  · rintro acc l h' ⟨k,e,hk,i⟩
    cases q:m.toNat - k with
    | zero=>have:k = m.toNat:=Nat.le_antisymm hk (Nat.le_of_sub_eq_zero q); subst this; exact ⟨trivial,hn acc l h' i⟩
    | succ j=>rw [q] at e; cases e
  · rintro x xs acc l h' K ⟨k,e,hk,i⟩ hK
    cases q:m.toNat - k with
    | zero=>rw [q] at e; cases e
    | succ j=>
      rw [q] at e
      cases e
      refine ⟨trivial,hs k acc l h' K (Nat.lt_of_sub_eq_succ q) i fun ys l2 h2 hy i2=>hK ys l2 h2 hy ⟨k + 1,?_,Nat.lt_of_sub_eq_succ q,i2⟩⟩
      rw [show m.toNat - (k + 1) = j from congrArg Nat.pred q]; rfl
theorem set2 {α:Type} (l:List α) (i:Nat) (u v:α):(l.set i u).set i v = l.set i v:=List.set_set ..
theorem each_go {α:Type} {i:Nat} {conds:List E} {elt:E} {l0:Locs} {grd:Hp → Prop} {Z:List V → Hp → Prop} {f:α → V} {F:α → List V} (hg:grd h) (hi:i < l0.length):∀ (zs:List α) (acc:List V) (l:Locs),(∀ u,l.set i u = l0.set i u) → i < l.length → (acc ++ zs.flatMap F).length ≤ lim →
    (∀ x ∈ zs,∀ (K:Locs → List V → Hp → Prop),K (l0.set i (some (f x))) (F x) h → WC c (l0.set i (some (f x))) conds h (kCd c (l0.set i (some (f x))) elt K)) → Z (acc ++ zs.flatMap F) h → compWp grd (cStep c [i] conds elt) (zs.map f) l acc h Z
  | []=>fun acc l zz zz zz zz k=>⟨hg,List.append_nil acc ▸ k⟩
  | z :: zs=>fun acc l e hl hm hs k=>by
    have e4:acc ++ (z :: zs).flatMap F = (acc ++ F z) ++ zs.flatMap F:=(List.append_assoc ..).symm
    rw [e4] at hm k
    have h1:bindT [i] (f z) l = some (l0.set i (some (f z))):=(if_pos hl).trans (congrArg some (e _))
    exact ⟨hg,onS h1 (hs z (.head _) (fun l' ys h'=>(acc ++ ys).length ≤ lim ∧ compWp grd (cStep c [i] conds elt) (zs.map f) l' (acc ++ ys) h' Z) ⟨nlt (nlt (Nat.le_add_right _ _) (Nat.le_of_eq List.length_append.symm)) hm,each_go hg hi zs _ _ (fun u=>set2 ..) (Nat.lt_of_lt_of_eq hi List.length_set.symm) hm (fun x hx=>hs x (.tail _ hx)) k⟩)⟩
theorem c_each {α:Type} {n i a:Nat} {cap:List (Nat × Nat)} {conds:List E} {elt:E} {l0:Locs} (f:α → V) (F:α → List V) (xs:List α) {ys:List V} (hx:h[a]? = some (.list (xs.map f))) (hc:capL cap loc (List.replicate n none) = some l0) (hi:Nat.ble (i + 1) l0.length = true) (e:xs.flatMap F = ys) (hl:ys.length ≤ lim)
    (hs:∀ x ∈ xs,∀ (K:Locs → List V → Hp → Prop),K (l0.set i (some (f x))) (F x) h → WC c (l0.set i (some (f x))) conds h (kCd c (l0.set i (some (f x))) elt K))
    (w:Ow b h0 h L) (k:∀ h' a',Ow b h0 h' ((a',.list ys) :: L) → Q (.ref a') h'):kComp c n cap [i] .seq conds elt loc Q (.ref a) h:=by
  subst e
  exact onS (it_items hx rfl) (onS hc (each_go hx (Nat.le_of_ble_eq_true hi) xs [] l0 (fun zz=>rfl) (Nat.le_of_ble_eq_true hi) hl hs (k _ _ (w.alloc _))))
theorem fm_map {α:Type} (f:α → V) (xs:List α):xs.flatMap (fun x=>[f x]) = xs.map f:=List.map_eq_flatMap.symm
theorem rangeL_map:∀ n lo:Nat,rangeL lo n = (List.range' lo n).map fun k=>.int (k:Nat)
  | 0=>fun zz=>rfl
  | n + 1=>fun lo=>congrArg (V.int lo :: ·) (rangeL_map n (lo + 1))
theorem c_mapR {n i:Nat} {cap:List (Nat × Nat)} {elt:E} {m:Int} {l0:Locs} (f:Nat → V) (hm:-1000 ≤ m ∧ m ≤ lim) (hc:capL cap loc (List.replicate n none) = some l0) (hi:Nat.ble (i + 1) l0.length = true)
    (hf:∀ x:Nat,x < m.toNat → pv (l0.set i (some (.int x))) elt = some (f x)) (w:Ow b h0 h L) (k:∀ h' a,Ow b h0 h' ((a,.list ((List.range m.toNat).map f)) :: L) → Q (.ref a) h'):kComp c n cap [i] .range [] elt loc Q (.int m) h:=by
  have e:(List.range' 0 m.toNat).flatMap (fun x=>[f x]) = (List.range m.toNat).map f:=by rw [fm_map,List.range_eq_range']
  refine onS (it_range hm) (onS hc ?_)
  show compWp _ _ (rangeL (0:Nat) _) _ _ _ _
  rw [rangeL_map]
  exact each_go (F:=fun x=>[f x]) trivial (Nat.le_of_ble_eq_true hi) _ [] l0 (fun zz=>rfl) (Nat.le_of_ble_eq_true hi) (by rw [List.nil_append,e,List.length_map,List.length_range]; exact Int.toNat_le.mpr hm.2) (fun x hx K hK=>w_nil (e_p (hf x (Nat.lt_of_lt_of_eq (List.mem_range'_1.mp hx).2 (Nat.zero_add _))) hK)) (by rw [List.nil_append,e]; exact k _ _ (w.alloc _))
end
end Mine
end
namespace Mine
section
open Lean
set_option compiler.extract_closed false
def wz:List String → List Syntax → List Syntax
  | o :: s :: n :: r,st=>
    let k:=n.toNat!
    wz r (match o with
      | "A" => .atom .none s :: st
      | "I" => mkIdent s.toName :: st
      | "Q" => .node .none `Lean.Parser.Tactic.tacticSeq #[.node .none `Lean.Parser.Tactic.tacticSeq1Indented #[.node .none `null (st.take k).toArray.reverse]] :: st.drop k
      | "R" => st.reverse.getD k .missing :: st
      | _ => .node .none (match o with | "T" => .str `Lean.Parser.Tactic s | "M" => .str `Lean.Parser.Term s | _ => s.toName) (st.take k).toArray.reverse :: st.drop k)
  | _,st=>st.reverse
def ws (k : Nat) : Syntax := (wz ("A assumption 0 T assumption 1 A exact 0 I rfl 0 T exact 2 A first 0 A | 0 R r 0 Q q 1 X group 2 A | 0 A exact 0 I Mine.Ow.get 0 A ( 0 I [anonymous] 0 X hygieneInfo 1 M hygienicLParen 2 A by 0 R r 0 Q q 1 M byTactic 2 A ) 0 M paren 3 A 0 0 X num 1 A ( 0 I [anonymous] 0 X hygieneInfo 1 M hygienicLParen 2 A by 0 R r 1 Q q 1 M byTactic 2 A ) 0 M paren 3 X null 3 M app 2 T exact 2 Q q 1 X group 2 A | 0 A exact 0 I Mine.Ow.get 0 A ( 0 I [anonymous] 0 X hygieneInfo 1 M hygienicLParen 2 A by 0 R r 0 Q q 1 M byTactic 2 A ) 0 M paren 3 A 1 0 X num 1 A ( 0 I [anonymous] 0 X hygieneInfo 1 M hygienicLParen 2 A by 0 R r 1 Q q 1 M byTactic 2 A ) 0 M paren 3 X null 3 M app 2 T exact 2 Q q 1 X group 2 A | 0 A exact 0 I Mine.Ow.get 0 A ( 0 I [anonymous] 0 X hygieneInfo 1 M hygienicLParen 2 A by 0 R r 0 Q q 1 M byTactic 2 A ) 0 M paren 3 A 2 0 X num 1 A ( 0 I [anonymous] 0 X hygieneInfo 1 M hygienicLParen 2 A by 0 R r 1 Q q 1 M byTactic 2 A ) 0 M paren 3 X null 3 M app 2 T exact 2 Q q 1 X group 2 A | 0 A exact 0 I Mine.Ow.get 0 A ( 0 I [anonymous] 0 X hygieneInfo 1 M hygienicLParen 2 A by 0 R r 0 Q q 1 M byTactic 2 A ) 0 M paren 3 A 3 0 X num 1 A ( 0 I [anonymous] 0 X hygieneInfo 1 M hygienicLParen 2 A by 0 R r 1 Q q 1 M byTactic 2 A ) 0 M paren 3 X null 3 M app 2 T exact 2 Q q 1 X group 2 A | 0 A exact 0 I Mine.Ow.get 0 A ( 0 I [anonymous] 0 X hygieneInfo 1 M hygienicLParen 2 A by 0 R r 0 Q q 1 M byTactic 2 A ) 0 M paren 3 A 4 0 X num 1 A ( 0 I [anonymous] 0 X hygieneInfo 1 M hygienicLParen 2 A by 0 R r 1 Q q 1 M byTactic 2 A ) 0 M paren 3 X null 3 M app 2 T exact 2 Q q 1 X group 2 A | 0 A exact 0 I Mine.Ow.get 0 A ( 0 I [anonymous] 0 X hygieneInfo 1 M hygienicLParen 2 A by 0 R r 0 Q q 1 M byTactic 2 A ) 0 M paren 3 A 5 0 X num 1 A ( 0 I [anonymous] 0 X hygieneInfo 1 M hygienicLParen 2 A by 0 R r 1 Q q 1 M byTactic 2 A ) 0 M paren 3 X null 3 M app 2 T exact 2 Q q 1 X group 2 X null 7 T first 2 A first 0 A | 0 R r 1 Q q 1 X group 2 A | 0 R r 0 Q q 1 X group 2 X null 2 T first 2 A exact 0 A ( 0 I [anonymous] 0 X hygieneInfo 1 M hygienicLParen 2 A by 0 R r 0 Q q 1 M byTactic 2 A : 0 I Mine.Ats 0 A _ 0 M hole 1 A _ 0 M hole 1 X null 2 M app 2 X null 1 A ) 0 M typeAscription 5 A _ 0 M hole 1 A _ 0 M hole 1 I rfl 0 X null 3 M app 2 T exact 2 A exact 0 A ( 0 I [anonymous] 0 X hygieneInfo 1 M hygienicLParen 2 A by 0 R r 0 Q q 1 M byTactic 2 A : 0 I Mine.Mts 0 A _ 0 M hole 1 A _ 0 M hole 1 X null 2 M app 2 X null 1 A ) 0 M typeAscription 5 A _ 0 M hole 1 A _ 0 M hole 1 A _ 0 M hole 1 I rfl 0 X null 4 M app 2 T exact 2 A first 0 A | 0 A ( 0 A with_reducible 0 A refine' 0 I Mine.s_nx 0 A ? 0 A _ 0 M syntheticHole 2 X null 1 M app 2 T refine' 2 Q q 1 T withReducible 2 Q q 1 A ) 0 T paren 3 Q q 1 X group 2 A | 0 A ( 0 A with_reducible 0 A refine' 0 I Mine.e_p 0 A ? 0 I k1 0 M syntheticHole 2 A ? 0 A _ 0 M syntheticHole 2 X null 2 M app 2 T refine' 2 Q q 1 T withReducible 2 A ; 0 A case 0 I k1 0 X Lean.binderIdent 1 X null 0 T caseArg 2 X null 1 A => 0 R r 1 Q q 1 T case 4 Q q 3 A ) 0 T paren 3 Q q 1 X group 2 A | 0 A ( 0 A with_reducible 0 A refine' 0 I Mine.l_p 0 A ? 0 I k1 0 M syntheticHole 2 A ? 0 A _ 0 M syntheticHole 2 X null 2 M app 2 T refine' 2 Q q 1 T withReducible 2 A ; 0 A case 0 I k1 0 X Lean.binderIdent 1 X null 0 T caseArg 2 X null 1 A => 0 R r 1 Q q 1 T case 4 Q q 3 A ) 0 T paren 3 Q q 1 X group 2 A | 0 A ( 0 A with_reducible 0 A refine' 0 I Mine.e_nx 0 A ? 0 I k1 0 M syntheticHole 2 A ? 0 A _ 0 M syntheticHole 2 X null 2 M app 2 T refine' 2 Q q 1 T withReducible 2 A ; 0 A case 0 I k1 0 X Lean.binderIdent 1 X null 0 T caseArg 2 X null 1 A => 0 R r 1 Q q 1 T case 4 Q q 3 A ) 0 T paren 3 Q q 1 X group 2 A | 0 A ( 0 A with_reducible 0 A refine' 0 I Mine.l_c 0 A ? 0 A _ 0 M syntheticHole 2 X null 1 M app 2 T refine' 2 Q q 1 T withReducible 2 Q q 1 A ) 0 T paren 3 Q q 1 X group 2 A | 0 A ( 0 A with_reducible 0 A refine' 0 I Mine.k_not 0 A ? 0 A _ 0 M syntheticHole 2 X null 1 M app 2 T refine' 2 Q q 1 T withReducible 2 Q q 1 A ) 0 T paren 3 Q q 1 X group 2 A | 0 A ( 0 A with_reducible 0 A refine' 0 I Mine.k_asl 0 A ? 0 I k1 0 M syntheticHole 2 A ? 0 A _ 0 M syntheticHole 2 X null 2 M app 2 T refine' 2 Q q 1 T withReducible 2 A ; 0 A case 0 I k1 0 X Lean.binderIdent 1 X null 0 T caseArg 2 X null 1 A => 0 R r 1 Q q 1 T case 4 Q q 3 A ) 0 T paren 3 Q q 1 X group 2 A | 0 A ( 0 A with_reducible 0 A refine' 0 I Mine.b_t 0 A ? 0 I k1 0 M syntheticHole 2 A ? 0 A _ 0 M syntheticHole 2 X null 2 M app 2 T refine' 2 Q q 1 T withReducible 2 A ; 0 A case 0 I k1 0 X Lean.binderIdent 1 X null 0 T caseArg 2 X null 1 A => 0 R r 1 Q q 1 T case 4 Q q 3 A ) 0 T paren 3 Q q 1 X group 2 A | 0 A ( 0 A with_reducible 0 A refine' 0 I Mine.b_f 0 A ? 0 I k1 0 M syntheticHole 2 A ? 0 A _ 0 M syntheticHole 2 X null 2 M app 2 T refine' 2 Q q 1 T withReducible 2 A ; 0 A case 0 I k1 0 X Lean.binderIdent 1 X null 0 T caseArg 2 X null 1 A => 0 R r 1 Q q 1 T case 4 Q q 3 A ) 0 T paren 3 Q q 1 X group 2 A | 0 A ( 0 A with_reducible 0 A refine' 0 I Mine.o_cmp 0 A ? 0 I k1 0 M syntheticHole 2 A ? 0 A _ 0 M syntheticHole 2 X null 2 M app 2 T refine' 2 Q q 1 T withReducible 2 A ; 0 A case 0 I k1 0 X Lean.binderIdent 1 X null 0 T caseArg 2 X null 1 A => 0 R r 3 Q q 1 T case 4 Q q 3 A ) 0 T paren 3 Q q 1 X group 2 A | 0 A ( 0 A with_reducible 0 A refine' 0 I Mine.o_tix 0 A ? 0 I k1 0 M syntheticHole 2 A ? 0 A _ 0 M syntheticHole 2 X null 2 M app 2 T refine' 2 Q q 1 T withReducible 2 A ; 0 A case 0 I k1 0 X Lean.binderIdent 1 X null 0 T caseArg 2 X null 1 A => 0 R r 3 Q q 1 T case 4 Q q 3 A ) 0 T paren 3 Q q 1 X group 2 A | 0 A ( 0 A with_reducible 0 A refine' 0 I Mine.o_mulr 0 A ? 0 I k1 0 M syntheticHole 2 A ? 0 A _ 0 M syntheticHole 2 X null 2 M app 2 T refine' 2 Q q 1 T withReducible 2 A ; 0 A case 0 I k1 0 X Lean.binderIdent 1 X null 0 T caseArg 2 X null 1 A => 0 R r 3 Q q 1 T case 4 Q q 3 A ) 0 T paren 3 Q q 1 X group 2 A | 0 A ( 0 A with_reducible 0 A refine' 0 I Mine.o_bin 0 A ? 0 I k1 0 M syntheticHole 2 A ? 0 A _ 0 M syntheticHole 2 X null 2 M app 2 T refine' 2 Q q 1 T withReducible 2 A ; 0 A case 0 I k1 0 X Lean.binderIdent 1 X null 0 T caseArg 2 X null 1 A => 0 R r 3 Q q 1 T case 4 Q q 3 A ) 0 T paren 3 Q q 1 X group 2 A | 0 A ( 0 A with_reducible 0 A refine' 0 I Mine.o_bi 0 A ? 0 I k1 0 M syntheticHole 2 A ? 0 A _ 0 M syntheticHole 2 X null 2 M app 2 T refine' 2 Q q 1 T withReducible 2 A ; 0 A case 0 I k1 0 X Lean.binderIdent 1 X null 0 T caseArg 2 X null 1 A => 0 R r 3 Q q 1 T case 4 Q q 3 A ) 0 T paren 3 Q q 1 X group 2 A | 0 A ( 0 A with_reducible 0 A refine' 0 I Mine.o_isi 0 A ? 0 I k1 0 M syntheticHole 2 A ? 0 A _ 0 M syntheticHole 2 X null 2 M app 2 T refine' 2 Q q 1 T withReducible 2 A ; 0 A case 0 I k1 0 X Lean.binderIdent 1 X null 0 T caseArg 2 X null 1 A => 0 R r 3 Q q 1 T case 4 Q q 3 A ) 0 T paren 3 Q q 1 X group 2 A | 0 A ( 0 A with_reducible 0 A refine' 0 I Mine.o_chn 0 A ? 0 I k1 0 M syntheticHole 2 A ? 0 A _ 0 M syntheticHole 2 X null 2 M app 2 T refine' 2 Q q 1 T withReducible 2 A ; 0 A case 0 I k1 0 X Lean.binderIdent 1 X null 0 T caseArg 2 X null 1 A => 0 R r 3 Q q 1 T case 4 Q q 3 A ) 0 T paren 3 Q q 1 X group 2 A | 0 A ( 0 A with_reducible 0 A refine' 0 I Mine.k_asu 0 A ? 0 I k1 0 M syntheticHole 2 A ? 0 A _ 0 M syntheticHole 2 X null 2 M app 2 T refine' 2 Q q 1 T withReducible 2 A ; 0 A case 0 I k1 0 X Lean.binderIdent 1 X null 0 T caseArg 2 X null 1 A => 0 R r 3 Q q 1 T case 4 Q q 3 A ) 0 T paren 3 Q q 1 X group 2 A | 0 A ( 0 A with_reducible 0 A refine' 0 I Mine.a_i 0 A ? 0 I k1 0 M syntheticHole 2 A ? 0 I k2 0 M syntheticHole 2 A ? 0 I k3 0 M syntheticHole 2 A ? 0 I k4 0 M syntheticHole 2 A ? 0 A _ 0 M syntheticHole 2 X null 5 M app 2 T refine' 2 Q q 1 T withReducible 2 A ; 0 A case 0 I k1 0 X Lean.binderIdent 1 X null 0 T caseArg 2 X null 1 A => 0 R r 0 Q q 1 T case 4 A ; 0 A case 0 I k2 0 X Lean.binderIdent 1 X null 0 T caseArg 2 X null 1 A => 0 R r 2 Q q 1 T case 4 A ; 0 A case 0 I k3 0 X Lean.binderIdent 1 X null 0 T caseArg 2 X null 1 A => 0 R r 4 Q q 1 T case 4 A ; 0 A case 0 I k4 0 X Lean.binderIdent 1 X null 0 T caseArg 2 X null 1 A => 0 R r 1 Q q 1 T case 4 Q q 9 A ) 0 T paren 3 Q q 1 X group 2 A | 0 A ( 0 A with_reducible 0 A refine' 0 I Mine.m_i 0 A ? 0 I k1 0 M syntheticHole 2 A ? 0 I k2 0 M syntheticHole 2 A ? 0 I k3 0 M syntheticHole 2 A ? 0 A _ 0 M syntheticHole 2 X null 4 M app 2 T refine' 2 Q q 1 T withReducible 2 A ; 0 A case 0 I k1 0 X Lean.binderIdent 1 X null 0 T caseArg 2 X null 1 A => 0 R r 0 Q q 1 T case 4 A ; 0 A case 0 I k2 0 X Lean.binderIdent 1 X null 0 T caseArg 2 X null 1 A => 0 R r 2 Q q 1 T case 4 A ; 0 A case 0 I k3 0 X Lean.binderIdent 1 X null 0 T caseArg 2 X null 1 A => 0 R r 5 Q q 1 T case 4 Q q 7 A ) 0 T paren 3 Q q 1 X group 2 A | 0 A ( 0 A with_reducible 0 A refine' 0 I Mine.m_app 0 A ? 0 I k1 0 M syntheticHole 2 A ? 0 A _ 0 M syntheticHole 2 X null 2 M app 2 T refine' 2 Q q 1 T withReducible 2 A ; 0 A case 0 I k1 0 X Lean.binderIdent 1 X null 0 T caseArg 2 X null 1 A => 0 R r 2 Q q 1 T case 4 Q q 3 A ) 0 T paren 3 Q q 1 X group 2 A | 0 A ( 0 A with_reducible 0 A refine' 0 I Mine.o_len 0 A ? 0 I k1 0 M syntheticHole 2 A ? 0 A _ 0 M syntheticHole 2 X null 2 M app 2 T refine' 2 Q q 1 T withReducible 2 A ; 0 A case 0 I k1 0 X Lean.binderIdent 1 X null 0 T caseArg 2 X null 1 A => 0 R r 2 Q q 1 T case 4 Q q 3 A ) 0 T paren 3 Q q 1 X group 2 A | 0 A ( 0 A with_reducible 0 A refine' 0 I Mine.o_isl 0 A ? 0 I k1 0 M syntheticHole 2 A ? 0 A _ 0 M syntheticHole 2 X null 2 M app 2 T refine' 2 Q q 1 T withReducible 2 A ; 0 A case 0 I k1 0 X Lean.binderIdent 1 X null 0 T caseArg 2 X null 1 A => 0 R r 2 Q q 1 T case 4 Q q 3 A ) 0 T paren 3 Q q 1 X group 2 A | 0 A ( 0 A with_reducible 0 A refine' 0 I Mine.o_flen 0 A ? 0 I k1 0 M syntheticHole 2 A ? 0 A _ 0 M syntheticHole 2 X null 2 M app 2 T refine' 2 Q q 1 T withReducible 2 A ; 0 A case 0 I k1 0 X Lean.binderIdent 1 X null 0 T caseArg 2 X null 1 A => 0 R r 2 Q q 1 T case 4 Q q 3 A ) 0 T paren 3 Q q 1 X group 2 A | 0 A ( 0 A with_reducible 0 A refine' 0 I Mine.o_dix 0 A ? 0 I k1 0 M syntheticHole 2 A ? 0 I k2 0 M syntheticHole 2 A ? 0 A _ 0 M syntheticHole 2 X null 3 M app 2 T refine' 2 Q q 1 T withReducible 2 A ; 0 A case 0 I k1 0 X Lean.binderIdent 1 X null 0 T caseArg 2 X null 1 A => 0 R r 2 Q q 1 T case 4 A ; 0 A case 0 I k2 0 X Lean.binderIdent 1 X null 0 T caseArg 2 X null 1 A => 0 R r 3 Q q 1 T case 4 Q q 5 A ) 0 T paren 3 Q q 1 X group 2 A | 0 A ( 0 A with_reducible 0 A refine' 0 I Mine.o_lix 0 A ? 0 I k1 0 M syntheticHole 2 A ? 0 I k2 0 M syntheticHole 2 A ? 0 A _ 0 M syntheticHole 2 X null 3 M app 2 T refine' 2 Q q 1 T withReducible 2 A ; 0 A case 0 I k1 0 X Lean.binderIdent 1 X null 0 T caseArg 2 X null 1 A => 0 R r 2 Q q 1 T case 4 A ; 0 A case 0 I k2 0 X Lean.binderIdent 1 X null 0 T caseArg 2 X null 1 A => 0 R r 3 Q q 1 T case 4 Q q 5 A ) 0 T paren 3 Q q 1 X group 2 A | 0 A ( 0 A with_reducible 0 A refine' 0 I Mine.o_fix 0 A ? 0 I k1 0 M syntheticHole 2 A ? 0 I k2 0 M syntheticHole 2 A ? 0 A _ 0 M syntheticHole 2 X null 3 M app 2 T refine' 2 Q q 1 T withReducible 2 A ; 0 A case 0 I k1 0 X Lean.binderIdent 1 X null 0 T caseArg 2 X null 1 A => 0 R r 2 Q q 1 T case 4 A ; 0 A case 0 I k2 0 X Lean.binderIdent 1 X null 0 T caseArg 2 X null 1 A => 0 R r 3 Q q 1 T case 4 Q q 5 A ) 0 T paren 3 Q q 1 X group 2 A | 0 A ( 0 A with_reducible 0 A refine' 0 I Mine.k_call 0 A ? 0 I k1 0 M syntheticHole 2 A ? 0 A _ 0 M syntheticHole 2 X null 2 M app 2 T refine' 2 Q q 1 T withReducible 2 A ; 0 A case 0 I k1 0 X Lean.binderIdent 1 X null 0 T caseArg 2 X null 1 A => 0 R r 0 Q q 1 T case 4 Q q 3 A ) 0 T paren 3 Q q 1 X group 2 A | 0 A ( 0 A with_reducible 0 A refine' 0 I Mine.k_self 0 A ? 0 I k1 0 M syntheticHole 2 A ? 0 A _ 0 M syntheticHole 2 X null 2 M app 2 T refine' 2 Q q 1 T withReducible 2 A ; 0 A case 0 I k1 0 X Lean.binderIdent 1 X null 0 T caseArg 2 X null 1 A => 0 R r 0 Q q 1 T case 4 Q q 3 A ) 0 T paren 3 Q q 1 X group 2 X null 28 T first 2 A repeat 0 R r 6 Q q 1 T tacticRepeat_ 2".splitOn " ") []).getD k .missing
end
end Mine
local macro_rules
| `(tactic| walk_at $s:str) => pure (Mine.ws (match s.getString with | "g" => 2 | "s" => 6 | _ => 7))
noncomputable section
namespace Mine
noncomputable def iL (xs:List Int):O:=.list (xs.map .int)
set_option genCtorIdx true in
inductive Ari where | add | sub | less | share
  deriving DecidableEq
noncomputable def Ari.w:Ari → Nat
  | .add=>24 | .sub=>25 | .less=>26 | .share=>27
noncomputable def Ari.do:Ari → Int → Int → Int
  | .add,a,b=>a + b
  | .sub,a,b=>a - b
  | .less,a,b=>if decide (a < b) = true then 1 else 0
  | .share,a,b=>a.fdiv b
section
variable {c:Cz} {loc:Locs} {h:Hp} {Q:KE} {KN:KS} {KR:KE} {b:Nat} {h0 h':Hp} {L L':List Cell}
theorem p_appI {x:Nat} (i:Nat) {xs:List Int} {v:Int} (w:Ow b h0 h L) (e:L[i]? = some (x,iL xs)) (hl:xs.length < lim) (k:∀ h',Ow b h0 h' (L.set i (x,iL (xs ++ [v]))) → Q .none h'):kApp x Q [.int v] h:=
  p_appO w e (by rw [List.length_map]; exact hl) (by rw [show List.map V.int xs ++ [V.int v] = List.map V.int (xs ++ [v]) by rw [List.map_append]; rfl]; exact k)
theorem t_lI {x:Nat} (j:Nat) {i:Int} {xs:List Int} {v:Int} (w:Ow b h0 h L) (e:L[j]? = some (x,iL xs)) (hi:0 ≤ i ∧ i < (xs.length:Int)) (k:∀ h',Ow b h0 h' (L.set j (x,iL (xs.set i.toNat v))) → KN loc h'):kTgi2 loc (.int v) (.ref x) KN (.int i) h:=
  t_lO w e (by rw [List.length_map]; exact hi) (by rw [show (List.map V.int xs).set i.toNat (V.int v) = List.map V.int (xs.set i.toNat v) by rw [List.map_set]]; exact k)
theorem rd_list {a n:Nat} {xs:List V} {ds:List D} (ha:h[a]? = some (.list xs)) (e:mapO (rd n h) xs = some ds):rd (n + 1) h (.ref a) = some (.list ds):=by
  show (match h[a]? with | some o=>(match o.items with | some xs=>(mapO (rd n h) xs).map D.list | none=>none) | none=>none) = _
  rw [ha]
  show (mapO (rd n h) xs).map D.list = _
  rw [e]; rfl
theorem eq_same {u v:V} {x:D} (hu:u.asBool = none) (h1:rd 60 h u = some x) (h2:rd 60 h v = some x):eqop u v h = some true:=by
  unfold eqop; rw [hu]; dsimp only
  exact eqD_of h1 h2 (p:=True) ⟨fun zz=>trivial,fun zz=>rfl⟩
theorem o_eqt {u v:V} {x:D} (hu:u.asBool = none) (h1:rd 60 h u = some x) (h2:rd 60 h v = some x) (k:Q (.bool true) h):kCmp2 .eq u Q v h:=o_cmpd (eq_same hu h1 h2) k
end
section
variable {g:Genv} {r f:Nat} {h:Hp} {Q:KE} {X:Nat → Hp → Prop}
noncomputable def cellAt (ns:List Int) (k:Nat):Int:=ns[k]?.getD 0
theorem cellAt_ok (hf:g.fn f = some fCellAt) {a:Nat} {ns:List Int} (k:Nat) (ha:h[a]? = some (.flist (ns.map .int))) (hq:Q (.int (cellAt ns k)) h):callWp g (r + 2) f [.ref a,.int k] h Q X:=by
  refine enter (b:=fCellAt_0) (loc:=[some (.ref a),some (.int k)]) hf rfl rfl rfl rfl fun c hc=>?_
  walk_at "w"
  refine b_d (fun q=>?_) (fun q=>?_)
  · rw [List.length_map] at q
    have hk:k < ns.length:=by (first | lia | omega)
    have e:seqAt (ns.map V.int) (k:Int) = some (.int (cellAt ns k)):=by
      rw [seqAt_nat (by (first | lia | omega))]; unfold cellAt; simp [List.getElem?_eq_getElem hk]
    walk_at "w"
    exact hq
  · rw [List.length_map] at q
    have e:cellAt ns k = 0:=by unfold cellAt; rw [List.getElem?_eq_none (by (first | lia | omega))]; rfl
    rw [e] at hq
    walk_at "w"
    exact hq
end
end Mine
end
noncomputable section
namespace Mine
inductive Row where
  | put (i:Int) | get (k:Int) | set (k:Int) | say | ari (w:Ari) | go (p:Int) | nought (p:Int) | on (k:Int) | turn | call (f:Int) | back | raise
noncomputable def Row.v:Row → V
  | .put i=>.tup [.str 20,.int i]
  | .get i=>.tup [.str 21,.int i]
  | .set i=>.tup [.str 22,.int i]
  | .say=>.tup [.str 23]
  | .ari a=>.tup [.str a.w]
  | .go i=>.tup [.str 28,.int i]
  | .nought i=>.tup [.str 29,.int i]
  | .on i=>.tup [.str 30,.int i]
  | .turn=>.tup [.str 32]
  | .call i=>.tup [.str 14,.int i]
  | .back=>.tup [.str 15]
  | .raise=>.tup [.str 31]
noncomputable def strV (x:Int × Int × Int):V:=.tup [.int x.1,.int x.2.1,.int x.2.2]
noncomputable def Row.wd:Row → Nat
  | .put _=>20
  | .get _=>21
  | .set _=>22
  | .say=>23
  | .ari a=>a.w
  | .go _=>28
  | .nought _=>29
  | .on _=>30
  | .turn=>32
  | .call _=>14
  | .back=>15
  | .raise=>31
theorem Row.tix0 (x:Row):tix x.v 0 = some (.str x.wd):=by cases x <;> rfl
end Mine
end
noncomputable section
namespace Mine
inductive T where
  | num (i:Int)
  | box (k:Nat)
  | call (f:Nat) (t:T)
  | ari (w:Ari) (a b:T)
noncomputable def T.v:T → V
  | .num i=>.tup [.str 35,.int i]
  | .box k=>.tup [.str 36,.int k]
  | .call f t=>.tup [.str 14,.int f,t.v]
  | .ari w a b=>.tup [.str w.w,a.v,b.v]
mutual
inductive Sm where
  | set (k:Nat) (t:T)
  | say (t:T)
  | give (t:T)
  | raise (t:T)
  | if_ (t:T) (a b:Bl)
  | loop (t:T) (a:Bl)
  | catch (a:Bl) (n:Option Int) (k:Nat) (b:Bl)
  | end_ (a b:Bl)
  | leave
  | next
inductive Bl where
  | nil
  | cons (s:Sm) (b:Bl)
end
noncomputable def Bl.app:Bl → Bl → Bl
  | .nil,b=>b
  | .cons s a,b=>.cons s (a.app b)
noncomputable def optV:Option Int → V
  | none=>.none
  | some i=>.int i
mutual
noncomputable def RS (P:Nat → List V → Prop):Sm → V → Prop
  | .set k t,v=>v = .tup [.str 22,.int k,t.v]
  | .say t,v=>v = .tup [.str 23,t.v]
  | .give t,v=>v = .tup [.str 43,t.v]
  | .raise t,v=>v = .tup [.str 31,t.v]
  | .if_ t a b,v=>∃ x y,v = .tup [.str 37,t.v,.ref x,.ref y] ∧ (∃ vs,P x vs ∧ RL P a vs) ∧ (∃ vs,P y vs ∧ RL P b vs)
  | .loop t a,v=>∃ x,v = .tup [.str 38,t.v,.ref x] ∧ (∃ vs,P x vs ∧ RL P a vs)
  | .catch a n k b,v=>∃ x y,v = .tup [.str 39,.ref x,optV n,.int k,.ref y] ∧ (∃ vs,P x vs ∧ RL P a vs) ∧ (∃ vs,P y vs ∧ RL P b vs)
  | .end_ a b,v=>∃ x y,v = .tup [.str 40,.ref x,.ref y] ∧ (∃ vs,P x vs ∧ RL P a vs) ∧ (∃ vs,P y vs ∧ RL P b vs)
  | .leave,v=>v = .tup [.str 41]
  | .next,v=>v = .tup [.str 42]
noncomputable def RL (P:Nat → List V → Prop):Bl → List V → Prop
  | .nil,vs=>vs = []
  | .cons s b,vs=>∃ v ws,vs = v :: ws ∧ RS P s v ∧ RL P b ws
end
noncomputable def RB (P:Nat → List V → Prop) (b:Bl) (x:Nat):Prop:=∃ vs,P x vs ∧ RL P b vs
mutual
theorem RS.mono {P P':Nat → List V → Prop} (h:∀ a vs,P a vs → P' a vs):∀ (s:Sm) (v:V),RS P s v → RS P' s v
  | .set _ _=>fun zz r=>r
  | .say _=>fun zz r=>r
  | .give _=>fun zz r=>r
  | .raise _=>fun zz r=>r
  | .if_ _ a b=>fun zz r=>by
    obtain ⟨x,y,e,⟨vs,p,r⟩,⟨ws,q,t⟩⟩:=r
    exact ⟨x,y,e,⟨vs,h _ _ p,RL.mono h a _ r⟩,⟨ws,h _ _ q,RL.mono h b _ t⟩⟩
  | .loop _ a=>fun zz r=>by
    obtain ⟨x,e,⟨vs,p,r⟩⟩:=r
    exact ⟨x,e,⟨vs,h _ _ p,RL.mono h a _ r⟩⟩
  | .catch a _ _ b=>fun zz r=>by
    obtain ⟨x,y,e,⟨vs,p,r⟩,⟨ws,q,t⟩⟩:=r
    exact ⟨x,y,e,⟨vs,h _ _ p,RL.mono h a _ r⟩,⟨ws,h _ _ q,RL.mono h b _ t⟩⟩
  | .end_ a b=>fun zz r=>by
    obtain ⟨x,y,e,⟨vs,p,r⟩,⟨ws,q,t⟩⟩:=r
    exact ⟨x,y,e,⟨vs,h _ _ p,RL.mono h a _ r⟩,⟨ws,h _ _ q,RL.mono h b _ t⟩⟩
  | .leave=>fun zz r=>r
  | .next=>fun zz r=>r
theorem RL.mono {P P':Nat → List V → Prop} (h:∀ a vs,P a vs → P' a vs):∀ (b:Bl) (vs:List V),RL P b vs → RL P' b vs
  | .nil=>fun zz r=>r
  | .cons s b=>fun zz r=>by
    obtain ⟨v,ws,e,r,t⟩:=r
    exact ⟨v,ws,e,RS.mono h s _ r,RL.mono h b _ t⟩
end
theorem RB.mono {P P':Nat → List V → Prop} (h:∀ a vs,P a vs → P' a vs) {b:Bl} {x:Nat} (r:RB P b x):RB P' b x:=by
  obtain ⟨vs,p,t⟩:=r
  exact ⟨vs,h _ _ p,RL.mono h b _ t⟩
theorem RL.app {P:Nat → List V → Prop} {b:Bl} {ys:List V} (q:RL P b ys):∀ (a:Bl) (xs:List V),RL P a xs → RL P (a.app b) (xs ++ ys)
  | .nil=>fun zz r=>by cases r; exact q
  | .cons s a=>fun zz r=>by
    obtain ⟨v,ws,e,r,t⟩:=r
    subst e
    exact ⟨v,_,rfl,r,RL.app q a ws t⟩
theorem RL.one {P:Nat → List V → Prop} {s:Sm} {v:V} (r:RS P s v):RL P (.cons s .nil) [v]:=⟨v,[],rfl,r,rfl⟩
section
variable {P:Nat → List V → Prop} {a b:Bl} {x y:Nat} {xs ys:List V}
theorem RL.mk {s:Sm} {v:V} (r:RS P s v) (t:RL P a xs):RL P (.cons s a) (v :: xs):=⟨v,xs,rfl,r,t⟩
end
noncomputable def RP (P:Nat → List V → Prop):List Bl → List Nat → Prop
  | [],as=>as = []
  | b :: bs,as=>∃ a as',as = a :: as' ∧ RB P b a ∧ RP P bs as'
theorem RP.mono {P P':Nat → List V → Prop} (h:∀ a vs,P a vs → P' a vs):∀ (bs:List Bl) (as:List Nat),RP P bs as → RP P' bs as
  | []=>fun zz r=>r
  | b :: bs=>fun zz r=>by
    obtain ⟨a,as,e,r,t⟩:=r
    exact ⟨a,as,e,r.mono h,RP.mono h bs as t⟩
theorem RP.app {P:Nat → List V → Prop} {ds:List Bl} {ds':List Nat} (q:RP P ds ds'):∀ (bs:List Bl) (as:List Nat),RP P bs as → RP P (bs ++ ds) (as ++ ds')
  | []=>fun zz r=>by cases r; exact q
  | b :: bs=>fun zz r=>by
    obtain ⟨a,as,e,r,t⟩:=r
    subst e
    exact ⟨a,_,rfl,r,RP.app q bs as t⟩
theorem RP.len {P:Nat → List V → Prop}:∀ (bs:List Bl) (as:List Nat),RP P bs as → as.length = bs.length
  | []=>fun zz r=>by cases r; rfl
  | b :: bs=>fun zz r=>by
    obtain ⟨a,as,e,r,t⟩:=r
    subst e
    exact congrArg Nat.succ (RP.len bs as t)
end Mine
end
noncomputable section
namespace Mine
theorem b_ifc {α:Type} {p:Prop} [Decidable p] {c:Bool} {A B:α} {PR:α → Prop} {X Y:Prop} (e:c = decide p) (hQ:PR (if p then A else B)) (k1:p → PR A → X) (k2:¬ p → PR B → Y):brB (.bool c) X Y:=
  b_c (fun z=>k1 (of_decide_eq_true (e ▸ z)) (if_pos (c:=p) (t:=A) (e:=B) (of_decide_eq_true (e ▸ z)) ▸ hQ)) (fun z=>k2 (of_decide_eq_false (e ▸ z)) (if_neg (c:=p) (t:=A) (e:=B) (of_decide_eq_false (e ▸ z)) ▸ hQ))
theorem b_if {α:Type} {p:Prop} [Decidable p] {A B:α} {PR:α → Prop} {X Y:Prop} (hQ:PR (if p then A else B)) (k1:p → PR A → X) (k2:¬ p → PR B → Y):brB (.bool (decide p)) X Y:=b_ifc rfl hQ k1 k2
theorem dlt (a b:Nat):decide ((a:Int) < b) = decide (a < b):=decide_eq_decide.mpr Int.ofNat_lt
theorem dand {p q:Prop} [Decidable p] [Decidable q] {a:Bool} (e:a = decide p):(a && decide q) = decide (p ∧ q):=e ▸ (Bool.decide_and p q).symm
theorem fmodc {x:Int} {m:Nat} {P:Int → Prop} (h:0 ≤ x ∧ x < m) (k:∀ n:Nat,n < m → P n):P x:=by
  obtain ⟨n,rfl⟩:=Int.eq_ofNat_of_zero_le h.1
  exact k n (Int.ofNat_lt.mp h.2)
theorem fmod2 {x:Int} (h:0 ≤ x ∧ x < 2):x = 0 ∨ x = 1:=fmodc (m:=2) (P:=fun x=>x = 0 ∨ x = 1) h (by decide)
theorem mod_in (x:Int) {m:Int} (h:0 < m):0 ≤ x.fmod m ∧ x.fmod m < m:=⟨Int.fmod_nonneg_of_pos _ h,Int.fmod_lt_of_pos _ h⟩
end Mine
end
noncomputable section
namespace Mine
noncomputable def T.ok (c:Nat):T → Nat → Prop
  | .num _,d=>d ≤ 6
  | .box k,d=>d ≤ 6 ∧ k < 4
  | .call f t,d=>d ≤ 6 ∧ f < c ∧ T.ok c t (d + 1)
  | .ari _ a b,d=>d ≤ 6 ∧ T.ok c a (d + 1) ∧ T.ok c b (d + 1)
mutual
noncomputable def Sm.ok (c:Nat):Sm → Nat → Bool → Prop
  | .set k t,_,_=>k < 4 ∧ t.ok c 1
  | .say t,_,_=>t.ok c 1
  | .give t,_,_=>t.ok c 1
  | .raise t,_,_=>t.ok c 1
  | .if_ t a b,d,l=>t.ok c 1 ∧ d < 8 ∧ Bl.ok c a (d + 1) l ∧ Bl.ok c b (d + 1) l
  | .loop t a,d,_=>t.ok c 1 ∧ d < 8 ∧ Bl.ok c a (d + 1) true
  | .catch a _ k b,d,l=>k < 4 ∧ d < 8 ∧ Bl.ok c a (d + 1) l ∧ Bl.ok c b (d + 1) l
  | .end_ a b,d,l=>d < 8 ∧ Bl.ok c a (d + 1) l ∧ Bl.ok c b (d + 1) l
  | .leave,_,l=>l = true
  | .next,_,l=>l = true
noncomputable def Bl.ok (c:Nat):Bl → Nat → Bool → Prop
  | .nil,_,_=>True
  | .cons s b,d,l=>Sm.ok c s d l ∧ Bl.ok c b d l
end
noncomputable def allS (p:Sm → Prop):Bl → Prop
  | .nil=>True
  | .cons s b=>p s ∧ allS p b
structure CG (g:Genv):Prop where
  f23:g.fn 23 = some cWithin
  f24:g.fn 24 = some cNeedBox
  f25:g.fn 25 = some cLookExpression
  f26:g.fn 26 = some cLookBlock
  f27:g.fn 27 = some cLookStatement
  f28:g.fn 28 = some cChecked
noncomputable def PH (h:Hp) (a:Nat) (vs:List V):Prop:=h[a]? = some (.list vs)
section
variable {g:Genv} (G:CG g) {h:Hp} {c:Nat} {X:Nat → Hp → Prop}
include G
omit G in
theorem u1 {d m:Nat}:∀ {u:Nat},m + 1 ≤ u + d → d ≤ m → ∃ v,u = v + 1
  | 0,h,k=>absurd (nlt h (nlt (Nat.le_of_eq (Nat.zero_add d)) k)) (Nat.not_succ_le_self m)
  | v + 1,_,_=>⟨v,rfl⟩
omit G in
noncomputable def okP (bs:List Bl):Prop:=bs ≠ [] ∧ ∀ b ∈ bs,b.ok bs.length 1 false
end
end Mine
end
noncomputable section
namespace Mine
structure Sa where
  said:List Int
  t:Nat
noncomputable abbrev R1:=(Nat × Int) × Sa
noncomputable abbrev R2:=(Nat × Int) × List Int × Sa
noncomputable abbrev CO:=Nat → Int → Sa → R1
noncomputable abbrev LO:=T → Bl → List Int → Sa → R2
@[irreducible] noncomputable def onE (p:R1) (f:Int → Sa → R1):R1:=if p.1.1 = 44 then f p.1.2 p.2 else p
@[irreducible] noncomputable def onT (p:R1) (bx:List Int) (f:Int → Sa → R2):R2:=if p.1.1 = 44 then f p.1.2 p.2 else (p.1,bx,p.2)
@[irreducible] noncomputable def onC (p:R2) (n:Option Int) (f:Int → List Int → Sa → R2):R2:=if p.1.1 = 13 ∧ (n = none ∨ n = some p.1.2) then f p.1.2 p.2.1 p.2.2 else p
@[irreducible] noncomputable def onF (p:R2) (q:Nat × Int):R2:=if p.1.1 = 45 then (q,p.2) else p
@[irreducible] noncomputable def onN (p:R2) (f:List Int → Sa → R2):R2:=if p.1.1 = 33 then p else onF (f p.2.1 p.2.2) p.1
@[irreducible] noncomputable def onD (p:R2) (f:List Int → Sa → R2):R2:=if p.1.1 = 45 then f p.2.1 p.2.2 else p
@[irreducible] noncomputable def onG (p:R2) (f:List Int → Sa → R2):R2:=if p.1.1 = 45 ∨ p.1.1 = 42 then f p.2.1 p.2.2 else p
@[irreducible] noncomputable def onL (p:R2) (f:List Int → Sa → R2):R2:=if p.1.1 = 41 then ((45,0),p.2) else onG p f
section
variable {p:R1} {z:R2} {fE:Int → Sa → R1} {fT:Int → Sa → R2} {fC:Int → List Int → Sa → R2} {f:List Int → Sa → R2} {i:Option Int} {w:Nat} {n:Int} {s:Sa} {bx:List Int} {q:Nat × Int} {A:R1 → Prop} {P:R1 → Prop} {B D:R2 → Prop}
theorem onE_y:onE ((44,n),s) fE = fE n s:=by delta onE; exact if_pos rfl
theorem onE_n (h:¬ w = 44):onE ((w,n),s) fE = ((w,n),s):=by delta onE; exact if_neg h
theorem onT_y:onT ((44,n),s) bx fT = fT n s:=by delta onT; exact if_pos rfl
theorem onT_n (h:¬ w = 44):onT ((w,n),s) bx fT = ((w,n),bx,s):=by delta onT; exact if_neg h
theorem onC_y (h:i = none ∨ i = some n):onC ((13,n),bx,s) i fC = fC n bx s:=by delta onC; exact if_pos ⟨rfl,h⟩
theorem onC_n (h:¬ (w = 13 ∧ (i = none ∨ i = some n))):onC ((w,n),bx,s) i fC = ((w,n),bx,s):=by delta onC; exact if_neg h
theorem onF_y:onF ((45,n),bx,s) q = (q,bx,s):=by delta onF; exact if_pos rfl
theorem onF_n (h:¬ w = 45):onF ((w,n),bx,s) q = ((w,n),bx,s):=by delta onF; exact if_neg h
theorem onN_y:onN ((33,n),bx,s) f = ((33,n),bx,s):=by delta onN; exact if_pos rfl
theorem onN_n (h:¬ w = 33):onN ((w,n),bx,s) f = onF (f bx s) (w,n):=by delta onN; exact if_neg h
theorem onD_y:onD ((45,n),bx,s) f = f bx s:=by delta onD; exact if_pos rfl
theorem onD_n (h:¬ w = 45):onD ((w,n),bx,s) f = ((w,n),bx,s):=by delta onD; exact if_neg h
theorem onG_y (h:w = 45 ∨ w = 42):onG ((w,n),bx,s) f = f bx s:=by delta onG; exact if_pos h
theorem onG_n (h:¬ (w = 45 ∨ w = 42)):onG ((w,n),bx,s) f = ((w,n),bx,s):=by delta onG; exact if_neg h
theorem onL_y:onL ((41,n),bx,s) f = ((45,0),bx,s):=by delta onL; exact if_pos rfl
theorem onL_n (h:¬ w = 41):onL ((w,n),bx,s) f = onG ((w,n),bx,s) f:=by delta onL; exact if_neg h
theorem onE_i (a:A p) (hn:¬ p.1.1 = 44 → A p → P p) (hy:∀ n s,A ((44,n),s) → P (fE n s)):P (onE p fE):=by
  obtain ⟨⟨w,n⟩,s⟩:=p
  by_cases h:w = 44
  · subst h; rw [onE_y]; exact hy n s a
  · rw [onE_n h]; exact hn h a
theorem onT_i (a:A p) (hn:¬ p.1.1 = 44 → A p → B (p.1,bx,p.2)) (hy:∀ n s,A ((44,n),s) → B (fT n s)):B (onT p bx fT):=by
  obtain ⟨⟨w,n⟩,s⟩:=p
  by_cases h:w = 44
  · subst h; rw [onT_y]; exact hy n s a
  · rw [onT_n h]; exact hn h a
theorem onC_i (a:D z) (hn:D z → B z) (hy:∀ n bx s,D ((13,n),bx,s) → B (fC n bx s)):B (onC z i fC):=by
  obtain ⟨⟨w,n⟩,bx,s⟩:=z
  by_cases h:w = 13 ∧ (i = none ∨ i = some n)
  · obtain ⟨rfl,h⟩:=h; rw [onC_y h]; exact hy n bx s a
  · rw [onC_n h]; exact hn a
theorem onF_i (h0:D z → B z) (h1:D z → B (q,z.2)) (a:D z):B (onF z q):=by
  delta onF; exact ite_i (fun zz=>h1 a) (fun zz=>h0 a)
theorem onN_i (a:D z) (hn:D z → B z) (hy:∀ w n bx s,D ((w,n),bx,s) → B (onF (f bx s) (w,n))):B (onN z f):=by
  delta onN; exact ite_i (fun zz=>hn a) (fun zz=>hy _ _ _ _ a)
theorem onD_i (a:D z) (hn:D z → ¬ z.1.1 = 45 → B z) (hy:∀ n bx s,D ((45,n),bx,s) → B (f bx s)):B (onD z f):=by
  obtain ⟨⟨w,n⟩,bx,s⟩:=z
  by_cases h:w = 45
  · subst h; rw [onD_y]; exact hy n bx s a
  · rw [onD_n h]; exact hn a h
theorem onL_i (a:D z) (h1:D z → B ((45,0),z.2)) (hn:D z → ¬ z.1.1 = 41 → ¬ z.1.1 = 42 → B z) (hy:∀ p bx s,D (p,bx,s) → B (f bx s)):B (onL z f):=by
  delta onL onG; exact ite_i (fun zz=>h1 a) (fun q=>ite_i (fun zz=>hy _ _ _ a) (fun q2=>hn a q fun e=>q2 (.inr e)))
end
noncomputable def evE (C:CO) (bx:List Int):T → Sa → R1
  | .num i,s=>((44,i),s)
  | .box k,s=>((44,bx.getD k 0),s)
  | .call f t,s=>onE (evE C bx t s) fun n s=>if s.t = 0 then ((33,0),s) else C f n ⟨s.said,s.t - 1⟩
  | .ari w a b,s=>onE (evE C bx a s) fun n s=>onE (evE C bx b s) fun m s=>if w = .share ∧ m = 0 then ((13,101),s) else ((44,w.do n m),s)
section
variable (C:CO) (L:LO)
mutual
noncomputable def evS:Sm → List Int → Sa → R2
  | .set k t,bx,s=>onT (evE C bx t s) bx fun n s=>((45,0),bx.set k n,s)
  | .say t,bx,s=>onT (evE C bx t s) bx fun n s=>((45,0),bx,⟨s.said ++ [n],s.t⟩)
  | .give t,bx,s=>onT (evE C bx t s) bx fun n s=>((43,n),bx,s)
  | .raise t,bx,s=>onT (evE C bx t s) bx fun n s=>((13,n),bx,s)
  | .if_ t a b,bx,s=>onT (evE C bx t s) bx fun n s=>if n = 0 then evB b bx s else evB a bx s
  | .loop t a,bx,s=>L t a bx s
  | .catch a n k b,bx,s=>onC (evB a bx s) n fun i bx s=>evB b (bx.set k i) s
  | .end_ a b,bx,s=>onN (evB a bx s) fun bx s=>evB b bx s
  | .leave,bx,s=>((41,0),bx,s)
  | .next,bx,s=>((42,0),bx,s)
noncomputable def evB:Bl → List Int → Sa → R2
  | .nil,bx,s=>((45,0),bx,s)
  | .cons st b,bx,s=>onD (evS st bx s) fun bx s=>evB b bx s
end
end
noncomputable def finR (p:Nat × Int):Nat × Int:=if p.1 = 45 then (44,0) else if p.1 = 43 then (44,p.2) else p
noncomputable def entF (C:CO) (L:LO) (a:Bl) (x:Int) (s:Sa):R1:=(finR (evB C L a [x,0,0,0] s).1,(evB C L a [x,0,0,0] s).2.2)
noncomputable def loop1 (C:CO) (L L':LO) (t:T) (a:Bl) (bx:List Int) (s:Sa):R2:=
  onT (evE C bx t s) bx fun n s=>if n = 0 then ((45,0),bx,s) else onL (evB C L a bx s) fun bx s=>L' t a bx s
noncomputable def lev (P:List Bl):Nat → (Nat → CO) × (Nat → LO)
  | 0=>(fun zz zz zz s=>((33,0),s),fun zz zz zz bx s=>((33,0),bx,s))
  | n + 1=>(fun d f x s=>if d = 8 then ((13,102),s) else entF ((lev P n).1 (d + 1)) ((lev P n).2 (d + 1)) (P.getD f .nil) x s,
      fun d t a bx s=>if s.t = 0 then ((33,0),bx,s) else loop1 ((lev P n).1 d) ((lev P n).2 d) ((lev P n).2 d) t a bx ⟨s.said,s.t - 1⟩)
mutual
noncomputable def Sm.sz:Sm → Nat
  | .say _=>1
  | .if_ _ a b=>a.sz + b.sz
  | .loop _ a=>a.sz
  | .catch a _ _ b=>a.sz + b.sz
  | .end_ a b=>a.sz + b.sz
  | _=>0
noncomputable def Bl.sz:Bl → Nat
  | .nil=>0
  | .cons s b=>s.sz + b.sz
end
noncomputable def pot (M:Nat) (s:Sa):Nat:=s.said.length + M * s.t
structure Lq (M k:Nat) (s s':Sa):Prop where
  t:s'.t ≤ s.t
  p:pot M s' ≤ pot M s + k
theorem Lq.refl (M k:Nat) (s:Sa):Lq M k s s:=⟨Nat.le_refl _,Nat.le_add_right _ _⟩
theorem Lq.trans {M k l:Nat} {s s' s'':Sa} (x:Lq M k s s') (y:Lq M l s' s''):Lq M (k + l) s s'':=⟨nlt y.t x.t,nlt y.p (nlt (Nat.add_le_add_right x.p l) (Nat.le_of_eq (Nat.add_assoc ..)))⟩
theorem Lq.mono {M k l:Nat} {s s':Sa} (x:Lq M k s s') (e:k ≤ l):Lq M l s s':=⟨x.t,nlt x.p (Nat.add_le_add_left e _)⟩
theorem Lq.turn {M:Nat} {s s':Sa} (h:s.t ≠ 0) (x:Lq M M ⟨s.said,s.t - 1⟩ s'):Lq M 0 s s':=by
  obtain ⟨a,t⟩:=s
  cases t with
  | zero=>exact absurd rfl h
  | succ t=>
    refine ⟨nlt x.t (Nat.le_succ t),nlt x.p ?_⟩
    show a.length + M * t + M ≤ a.length + M * (t + 1) + 0
    exact Nat.le_of_eq (Nat.add_assoc ..)
noncomputable def CL (M:Nat) (C:CO):Prop:=∀ f x s,Lq M M s (C f x s).2
noncomputable def Lv (M:Nat) (s:Sa) (p:R1):Prop:=Lq M 0 s p.2
structure Ls (M k:Nat) (s:Sa) (bx:List Int) (p:R2):Prop where
  q:Lq M k s p.2.2
  l:p.2.1.length = bx.length
noncomputable def LL (M:Nat) (L:LO):Prop:=∀ t a bx s,a.sz ≤ M → Ls M 0 s bx (L t a bx s)
theorem Ls.mono {M k l:Nat} {s:Sa} {bx:List Int} {p:R2} (x:Ls M k s bx p) (e:k ≤ l):Ls M l s bx p:=⟨x.q.mono e,x.l⟩
theorem Ls.then {M k l:Nat} {s s1:Sa} {bx bx1:List Int} {w:Nat × Int} {p:R2} (x:Ls M k s bx (w,bx1,s1)) (y:Ls M l s1 bx1 p):Ls M (k + l) s bx p:=⟨x.q.trans y.q,y.l.trans x.l⟩
theorem Lv.then {M l:Nat} {s s1:Sa} {w:Nat × Int} {bx:List Int} {p:R2} (x:Lv M s (w,s1)) (y:Ls M l s1 bx p):Ls M l s bx p:=⟨(Lq.trans x y.q).mono (Nat.le_of_eq (Nat.zero_add _)),y.l⟩
section
variable {M:Nat} {C:CO} {L:LO} (hC:CL M C)
include hC
theorem evE_le (bx:List Int):∀ (t:T) (s:Sa),Lv M s (evE C bx t s)
  | .num i=>fun s=>Lq.refl ..
  | .box k=>fun s=>Lq.refl ..
  | .call f t=>fun s=>onE_i (evE_le bx t s) (fun zz i=>i) fun n s1 i=>ite_i (fun zz=>i) (fun q=>Lq.trans i (.turn q (hC ..)))
  | .ari w a b=>fun s=>onE_i (evE_le bx a s) (fun zz i=>i) fun n s1 i=>onE_i (evE_le bx b s1) (fun zz j=>Lq.trans i j) fun m s2 j=>ite_i (fun zz=>Lq.trans i j) (fun zz=>Lq.trans i j)
variable (hL:LL M L)
include hL
mutual
theorem evS_le:∀ (st:Sm) (bx:List Int) (s:Sa),st.sz ≤ M → Ls M st.sz s bx (evS C L st bx s)
  | .set k t=>fun bx s h=>onT_i (evE_le hC bx t s) (fun zz i=>⟨i,rfl⟩) fun n s1 i=>⟨i,List.length_set ..⟩
  | .say t=>fun bx s h=>onT_i (evE_le hC bx t s) (fun zz i=>⟨Lq.mono i (Nat.zero_le _),rfl⟩) fun n s1 i=>⟨⟨i.t,by
      show (s1.said ++ [n]).length + M * s1.t ≤ _ + 1
      rw [List.length_append]; exact nlt (Nat.le_of_eq (Nat.add_right_comm ..)) (Nat.succ_le_succ i.p)⟩,rfl⟩
  | .give t=>fun bx s h=>onT_i (evE_le hC bx t s) (fun zz i=>⟨i,rfl⟩) fun n s1 i=>⟨i,rfl⟩
  | .raise t=>fun bx s h=>onT_i (evE_le hC bx t s) (fun zz i=>⟨i,rfl⟩) fun n s1 i=>⟨i,rfl⟩
  | .if_ t a b=>fun bx s h=>onT_i (evE_le hC bx t s) (fun zz i=>⟨Lq.mono i (Nat.zero_le _),rfl⟩) fun n s1 i=>ite_i (fun zz=>i.then ((evB_le b bx s1 (nlt (Nat.le_add_left _ _) h)).mono (Nat.le_add_left _ _))) (fun zz=>i.then ((evB_le a bx s1 (nlt (Nat.le_add_right _ _) h)).mono (Nat.le_add_right _ _)))
  | .loop t a=>fun bx s h=>(hL t a bx s h).mono (Nat.zero_le _)
  | .catch a n k b=>fun bx s h=>onC_i (evB_le a bx s (nlt (Nat.le_add_right _ _) h)) (fun j=>j.mono (Nat.le_add_right _ _)) fun n bx1 s1 j=>j.then ⟨(evB_le b (bx1.set k n) s1 (nlt (Nat.le_add_left _ _) h)).q,(evB_le b (bx1.set k n) s1 (nlt (Nat.le_add_left _ _) h)).l.trans (List.length_set ..)⟩
  | .end_ a b=>fun bx s h=>onN_i (evB_le a bx s (nlt (Nat.le_add_right _ _) h)) (fun j=>j.mono (Nat.le_add_right _ _)) fun w n bx1 s1 j=>onF_i (D:=Ls M b.sz s1 bx1) (fun k=>j.then k) (fun k=>j.then ⟨k.q,k.l⟩) (evB_le b bx1 s1 (nlt (Nat.le_add_left _ _) h))
  | .leave=>fun bx s h=>⟨.refl ..,rfl⟩
  | .next=>fun bx s h=>⟨.refl ..,rfl⟩
theorem evB_le:∀ (b:Bl) (bx:List Int) (s:Sa),b.sz ≤ M → Ls M b.sz s bx (evB C L b bx s)
  | .nil=>fun bx s h=>⟨.refl ..,rfl⟩
  | .cons st b=>fun bx s h=>onD_i (evS_le st bx s (nlt (Nat.le_add_right _ _) h)) (fun j zz=>j.mono (Nat.le_add_right _ _)) fun n bx1 s1 j=>j.then (evB_le b bx1 s1 (nlt (Nat.le_add_left _ _) h))
end
theorem loop1_le {L':LO} (hL':LL M L') {t:T} {a:Bl} {bx:List Int} {s:Sa} (h:a.sz ≤ M):Ls M M s bx (loop1 C L L' t a bx s):=
  onT_i (evE_le hC bx t s) (fun zz i=>⟨Lq.mono i (Nat.zero_le _),rfl⟩) fun n s1 i=>ite_i (fun zz=>⟨Lq.mono i (Nat.zero_le _),rfl⟩) fun zz=>i.then (onL_i ((evB_le hC hL a bx s1 h).mono h) (fun j=>⟨j.q,j.l⟩) (fun j zz zz=>j) fun w bx2 s2 j=>j.then (hL' t a bx2 s2 h))
end
theorem getD_sz {P:List Bl} {M:Nat} (hP:∀ b ∈ P,b.sz ≤ M) (f:Nat):(P.getD f .nil).sz ≤ M:=by
  rw [List.getD_eq_getElem?_getD]
  cases e:P[f]? with
  | none=>exact Nat.zero_le _
  | some b=>exact hP b (List.mem_of_getElem? e)
theorem lev_le {P:List Bl} {M:Nat} (hP:∀ b ∈ P,b.sz ≤ M):∀ n,(∀ d,CL M ((lev P n).1 d)) ∧ ∀ d,LL M ((lev P n).2 d)
  | 0=>⟨fun zz zz zz zz=>.refl ..,fun zz zz zz zz zz zz=>⟨.refl ..,rfl⟩⟩
  | n + 1=>by
    have i:=lev_le hP n
    exact ⟨fun d f x s=>ite_i (P:=fun p:R1=>Lq M M s p.2) (fun zz=>.refl ..) fun zz=>((evB_le (i.1 _) (i.2 _) _ _ s (getD_sz hP f)).mono (getD_sz hP f)).q,
      fun d t a bx s h=>ite_i (P:=Ls M 0 s bx) (fun zz=>⟨.refl ..,rfl⟩) fun q=>⟨.turn q (loop1_le (i.1 d) (i.2 d) (i.2 d) h).q,(loop1_le (i.1 d) (i.2 d) (i.2 d) h).l⟩⟩
section
variable {C:CO} {L L':LO} {bx bx1 bx2:List Int} {s s1 s2:Sa} {w w2:Nat} {n n2:Int} {t a b:T} {f:Nat} {o:Ari}
theorem evE_co (e:evE C bx t s = ((w,n),s1)) (h:¬ w = 44):evE C bx (.call f t) s = ((w,n),s1):=(congrArg (onE · _) e).trans (onE_n h)
theorem evE_ct (e:evE C bx t s = ((44,n),s1)) (h:s1.t = 0):evE C bx (.call f t) s = ((33,0),s1):=(congrArg (onE · _) e).trans (onE_y.trans (if_pos h))
theorem evE_cc (e:evE C bx t s = ((44,n),s1)) (h:¬ s1.t = 0):evE C bx (.call f t) s = C f n ⟨s1.said,s1.t - 1⟩:=(congrArg (onE · _) e).trans (onE_y.trans (if_neg h))
theorem evE_a1 (e:evE C bx a s = ((w,n),s1)) (h:¬ w = 44):evE C bx (.ari o a b) s = ((w,n),s1):=(congrArg (onE · _) e).trans (onE_n h)
theorem evE_a2 (e:evE C bx a s = ((44,n),s1)) (e2:evE C bx b s1 = ((w2,n2),s2)) (h:¬ w2 = 44):evE C bx (.ari o a b) s = ((w2,n2),s2):=(congrArg (onE · _) e).trans (onE_y.trans ((congrArg (onE · _) e2).trans (onE_n h)))
theorem evE_a3 (e:evE C bx a s = ((44,n),s1)) (e2:evE C bx b s1 = ((44,n2),s2)) (h:¬ (o = .share ∧ n2 = 0)):evE C bx (.ari o a b) s = ((44,o.do n n2),s2):=(congrArg (onE · _) e).trans (onE_y.trans ((congrArg (onE · _) e2).trans (onE_y.trans (if_neg h))))
theorem evE_a4 (e:evE C bx a s = ((44,n),s1)) (e2:evE C bx b s1 = ((44,0),s2)):evE C bx (.ari .share a b) s = ((13,101),s2):=(congrArg (onE · _) e).trans (onE_y.trans ((congrArg (onE · _) e2).trans (onE_y.trans (if_pos ⟨rfl,rfl⟩))))
noncomputable def Sm.tr:Sm → Option T
  | .set _ t=>some t
  | .say t=>some t
  | .give t=>some t
  | .raise t=>some t
  | .if_ t _ _=>some t
  | _=>none
theorem evS_o {st:Sm} (ht:st.tr = some t) (e:evE C bx t s = ((w,n),s1)) (h:¬ w = 44):evS C L st bx s = ((w,n),bx,s1):=by
  cases st <;> first | (cases ht; exact (congrArg (onT · bx _) e).trans (onT_n h)) | cases ht
theorem evS_set {k:Nat} (e:evE C bx t s = ((44,n),s1)):evS C L (.set k t) bx s = ((45,0),bx.set k n,s1):=(congrArg (onT · bx _) e).trans onT_y
theorem evS_say (e:evE C bx t s = ((44,n),s1)):evS C L (.say t) bx s = ((45,0),bx,⟨s1.said ++ [n],s1.t⟩):=(congrArg (onT · bx _) e).trans onT_y
theorem evS_give (e:evE C bx t s = ((44,n),s1)):evS C L (.give t) bx s = ((43,n),bx,s1):=(congrArg (onT · bx _) e).trans onT_y
theorem evS_raise (e:evE C bx t s = ((44,n),s1)):evS C L (.raise t) bx s = ((13,n),bx,s1):=(congrArg (onT · bx _) e).trans onT_y
section
variable {p q:Bl}
theorem evS_if1 (e:evE C bx t s = ((44,n),s1)) (h:¬ n = 0):evS C L (.if_ t p q) bx s = evB C L p bx s1:=(congrArg (onT · bx _) e).trans (onT_y.trans (if_neg h))
theorem evS_if0 (e:evE C bx t s = ((44,0),s1)):evS C L (.if_ t p q) bx s = evB C L q bx s1:=(congrArg (onT · bx _) e).trans (onT_y.trans (if_pos rfl))
theorem evS_c1 {k:Nat} {i:Option Int} (e:evB C L p bx s = ((13,n),bx1,s1)) (h:i = none ∨ i = some n):evS C L (.catch p i k q) bx s = evB C L q (bx1.set k n) s1:=(congrArg (onC · i _) e).trans (onC_y h)
theorem evS_c0 {k:Nat} {i:Option Int} (e:evB C L p bx s = ((w,n),bx1,s1)) (h:¬ (w = 13 ∧ (i = none ∨ i = some n))):evS C L (.catch p i k q) bx s = ((w,n),bx1,s1):=(congrArg (onC · i _) e).trans (onC_n h)
theorem evS_e0 (e:evB C L p bx s = ((33,n),bx1,s1)):evS C L (.end_ p q) bx s = ((33,n),bx1,s1):=(congrArg (onN · _) e).trans onN_y
theorem evS_e1 (e:evB C L p bx s = ((w,n),bx1,s1)) (h:¬ w = 33) (e2:evB C L q bx1 s1 = ((45,n2),bx2,s2)):evS C L (.end_ p q) bx s = ((w,n),bx2,s2):=(congrArg (onN · _) e).trans ((onN_n h).trans ((congrArg (onF · _) e2).trans onF_y))
theorem evS_e2 (e:evB C L p bx s = ((w,n),bx1,s1)) (h:¬ w = 33) (e2:evB C L q bx1 s1 = ((w2,n2),bx2,s2)) (h2:¬ w2 = 45):evS C L (.end_ p q) bx s = ((w2,n2),bx2,s2):=(congrArg (onN · _) e).trans ((onN_n h).trans ((congrArg (onF · _) e2).trans (onF_n h2)))
theorem evB_c {st:Sm} (e:evS C L st bx s = ((45,n),bx1,s1)):evB C L (.cons st p) bx s = evB C L p bx1 s1:=(congrArg (onD · _) e).trans onD_y
theorem evB_x {st:Sm} (e:evS C L st bx s = ((w,n),bx1,s1)) (h:¬ w = 45):evB C L (.cons st p) bx s = ((w,n),bx1,s1):=(congrArg (onD · _) e).trans (onD_n h)
theorem lp_o (e:evE C bx t s = ((w,n),s1)) (h:¬ w = 44):loop1 C L L' t p bx s = ((w,n),bx,s1):=(congrArg (onT · bx _) e).trans (onT_n h)
theorem lp_0 (e:evE C bx t s = ((44,0),s1)):loop1 C L L' t p bx s = ((45,0),bx,s1):=(congrArg (onT · bx _) e).trans (onT_y.trans (if_pos rfl))
theorem lp_b (e:evE C bx t s = ((44,n),s1)) (h:¬ n = 0) {r:R2} (e2:evB C L p bx s1 = r):loop1 C L L' t p bx s = onL r fun bx s=>L' t p bx s:=(congrArg (onT · bx _) e).trans (onT_y.trans ((if_neg h).trans (congrArg (onL · _) e2)))
theorem lp_l (e:evE C bx t s = ((44,n),s1)) (h:¬ n = 0) (e2:evB C L p bx s1 = ((41,n2),bx2,s2)):loop1 C L L' t p bx s = ((45,0),bx2,s2):=(lp_b e h e2).trans onL_y
theorem lp_n (e:evE C bx t s = ((44,n),s1)) (h:¬ n = 0) (e2:evB C L p bx s1 = ((w2,n2),bx2,s2)) (h2:w2 = 45 ∨ w2 = 42):loop1 C L L' t p bx s = L' t p bx2 s2:=(lp_b e h e2).trans ((onL_n (by rcases h2 with rfl | rfl <;> decide)).trans (onG_y h2))
theorem lp_x (e:evE C bx t s = ((44,n),s1)) (h:¬ n = 0) (e2:evB C L p bx s1 = ((w2,n2),bx2,s2)) (h1:¬ w2 = 41) (h2:¬ (w2 = 45 ∨ w2 = 42)):loop1 C L L' t p bx s = ((w2,n2),bx2,s2):=(lp_b e h e2).trans ((onL_n h1).trans (onG_n h2))
theorem ent_b {x:Int} (e:evB C L p [x,0,0,0] s = ((45,n),bx1,s1)):entF C L p x s = ((44,0),s1):=congrArg (fun z:R2=>(finR z.1,z.2.2)) e
theorem ent_g {x:Int} (e:evB C L p [x,0,0,0] s = ((43,n),bx1,s1)):entF C L p x s = ((44,n),s1):=congrArg (fun z:R2=>(finR z.1,z.2.2)) e
theorem ent_o {x:Int} (e:evB C L p [x,0,0,0] s = ((w,n),bx1,s1)) (h:¬ w = 45) (h2:¬ w = 43):entF C L p x s = ((w,n),s1):=(congrArg (fun z:R2=>(finR z.1,z.2.2)) e).trans (congrArg (·,s1) ((if_neg h).trans (if_neg h2)))
end
end
theorem evE_q {M:Nat} {C:CO} (hC:CL M C) {bx:List Int} {t:T} {s:Sa} {p:R1} (e:evE C bx t s = p):Lq M 0 s p.2:=e ▸ evE_le hC bx t s
theorem evS_q {M:Nat} {C:CO} {L:LO} (hC:CL M C) (hL:LL M L) {bx:List Int} {st:Sm} {s:Sa} {p:R2} (h:st.sz ≤ M) (e:evS C L st bx s = p):Lq M st.sz s p.2.2 ∧ p.2.1.length = bx.length:=e ▸ ⟨(evS_le hC hL st bx s h).q,(evS_le hC hL st bx s h).l⟩
theorem evB_q {M:Nat} {C:CO} {L:LO} (hC:CL M C) (hL:LL M L) {bx:List Int} {b:Bl} {s:Sa} {p:R2} (h:b.sz ≤ M) (e:evB C L b bx s = p):Lq M b.sz s p.2.2 ∧ p.2.1.length = bx.length:=e ▸ ⟨(evB_le hC hL b bx s h).q,(evB_le hC hL b bx s h).l⟩
noncomputable def rmE (v e:Nat):Nat:=45 * v + 2 * (7 - e) + 4
noncomputable def rmB (v z:Nat):Nat:=45 * v + 3 * (9 - z) + 19
section
variable {v e z R:Nat}
theorem pe {n:Nat} (h:n ≤ R):∃ k,R = k + n:=⟨R - n,(Nat.sub_add_cancel h).symm⟩
theorem ge4' (h:rmE v e ≤ R):4 ≤ R:=nlt (Nat.le_add_left 4 _) h
theorem b19 (h:rmB v z ≤ R):45 * v + 19 ≤ R:=nlt (Nat.add_le_add_right (Nat.le_add_right _ _) 19) h
theorem ge19 (h:rmB v z ≤ R):19 ≤ R:=nlt (Nat.le_add_left 19 _) h
theorem rE_eq (he:e ≤ 6):rmE v (e + 1) + 2 = rmE v e:=by
  delta rmE; rw [show 7 - e = 6 - e + 1 from Nat.succ_sub he,show 7 - (e + 1) = 6 - e from Nat.succ_sub_succ 6 e]; exact Nat.add_right_comm (45 * v + 2 * (6 - e)) 4 2
theorem rB_eq (hz:z < 8):rmB v (z + 1) + 3 = rmB v z:=by
  delta rmB; rw [show 9 - z = 8 - z + 1 from Nat.succ_sub (Nat.le_of_lt hz),show 9 - (z + 1) = 8 - z from Nat.succ_sub_succ 8 z]; exact Nat.add_right_comm (45 * v + 3 * (8 - z)) 19 3
theorem rE2 (h:rmE v e ≤ R):∃ k,R = k + 2:=pe (nlt (by decide) (ge4' h))
theorem rE4 (h:rmE v e ≤ R) (he:e ≤ 6):∃ k,R = k + 4:=pe (ge4' h)
theorem rE_s (h:rmE v e ≤ R + 2) (he:e ≤ 6):rmE v (e + 1) ≤ R + 1:=Nat.le_succ_of_le (Nat.le_of_add_le_add_right (b:=2) (nlt (Nat.le_of_eq (rE_eq he)) h))
theorem rE_c (h:rmE v e ≤ R + 4) (he:e ≤ 6):rmE v (e + 1) ≤ R + 2:=Nat.le_of_add_le_add_right (b:=2) (nlt (Nat.le_of_eq (rE_eq he)) h)
theorem rE_f (h:rmE v e ≤ R + 4) (he:e ≤ 6):45 * v + 4 ≤ R + 2:=nlt (Nat.add_le_add_right (Nat.le_add_right _ _) 4) (rE_c h he)
theorem rB2 (h:rmB v z ≤ R):∃ k,R = k + 2:=pe (nlt (by decide) (ge19 h))
theorem rS2 (h:rmB v z ≤ R + 1):∃ k,R = k + 2:=pe (Nat.le_of_succ_le_succ (nlt (by decide) (ge19 h)))
theorem rS4 (h:rmB v z ≤ R + 1):∃ k,R = k + 4:=pe (Nat.le_of_succ_le_succ (nlt (by decide) (ge19 h)))
theorem rL3 (h:rmB v z ≤ R + 2):∃ k,R = k + 3:=pe (Nat.le_of_add_le_add_right (b:=2) (nlt (by decide) (ge19 h)))
theorem rS_E (h:rmB v z ≤ R + 3):rmE v 1 ≤ R + 1:=Nat.le_succ_of_le (Nat.le_of_add_le_add_right (b:=3) (b19 h))
theorem rL_E (h:rmB v z ≤ R + 5):rmE v 1 ≤ R + 2:=Nat.le_of_add_le_add_right (b:=3) (b19 h)
theorem rS_B (h:rmB v z ≤ R + 3) (hz:z < 8):rmB v (z + 1) ≤ R + 1:=Nat.le_succ_of_le (Nat.le_of_add_le_add_right (b:=3) (nlt (Nat.le_of_eq (rB_eq hz)) h))
theorem rL_B (h:rmB v z ≤ R + 5) (hz:z < 8):rmB v (z + 1) ≤ R + 2:=Nat.le_of_add_le_add_right (b:=3) (nlt (Nat.le_of_eq (rB_eq hz)) h)
theorem rF_B (h:45 * (v + 1) + 4 ≤ R + 2):rmB v 1 ≤ R + 1:=Nat.le_succ_of_le (nlt (Nat.add_le_add_left (by decide:43 ≤ 47) (45 * v)) (Nat.le_of_add_le_add_right (b:=2) h))
theorem rF2 (h:45 * (v + 1) + 4 ≤ R):∃ k,R = k + 2:=pe (nlt (by decide) (nlt (Nat.le_add_left 4 _) h))
end
noncomputable def PB (b:Nat) (h0:Hp) (a:Nat) (vs:List V):Prop:=a < b ∧ h0[a]? = some (.list vs)
theorem ari3 (o:Ari):decide (o.w = 35) = false ∧ decide (o.w = 36) = false ∧ decide (o.w = 14) = false:=by cases o <;> exact ⟨rfl,rfl,rfl⟩
end Mine
end
noncomputable section
namespace Mine
noncomputable def dAt (c f:Nat):Bool:=Nat.beq c 2 && dAtl.contains f
noncomputable def dMs (c m:Nat):Option Nat:=if Nat.beq c 2 then dTab.lookup m else none
structure DG (g:Genv):Prop where
  f29:g.fn 29 = some dInit
  f30:g.fn 30 = some dTookTurn
  f31:g.fn 31 = some dEntered
  f32:g.fn 32 = some dCalled
  f33:g.fn 33 = some dExpression
  f34:g.fn 34 = some dBlock
  f35:g.fn 35 = some dStatement
  f36:g.fn 36 = some dLoop
  f37:g.fn 37 = some dCaught
  f38:g.fn 38 = some dEnded
  f39:g.fn 39 = some cTold
  i2:g.init 2 = some 29
  ms:Mts g dMs
  ats:Ats g dAt
structure PS (b:Nat) (h0:Hp) (pa:Nat) (as:List Nat) (P:List Bl) (M:Nat):Prop where
  p:PB b h0 pa (as.map V.ref)
  r:RP (PB b h0) P as
  ok:okP P
  sz:∀ b ∈ P,b.sz ≤ M
noncomputable abbrev DL (da sd pa:Nat) (s:Sa) (d:Nat) (L:List Cell):List Cell:=(da,.inst 2 [(46,.ref pa),(9,.ref sd),(8,.int s.t),(47,.int d)]) :: (sd,iL s.said) :: L
structure SI (n M k:Nat) (s:Sa):Prop where
  t:s.t ≤ n
  p:pot M s + k < lim
theorem SI.lq {n M k l:Nat} {s s':Sa} (x:SI n M (k + l) s) (e:Lq M k s s'):SI n M l s':=⟨nlt e.t x.t,Nat.lt_of_le_of_lt (nlt (Nat.add_le_add_right e.p l) (Nat.le_of_eq (Nat.add_assoc ..))) x.p⟩
theorem SI.lq0 {n M l:Nat} {s s':Sa} (x:SI n M l s) (e:Lq M 0 s s'):SI n M l s':=⟨nlt e.t x.t,Nat.lt_of_le_of_lt (Nat.add_le_add_right e.p l) x.p⟩
theorem SI.le {n M k l:Nat} {s:Sa} (x:SI n M k s) (e:l ≤ k):SI n M l s:=⟨x.t,Nat.lt_of_le_of_lt (Nat.add_le_add_left e _) x.p⟩
theorem SI.turn {n M k:Nat} {s:Sa} (x:SI (n + 1) M k s) (h:s.t ≠ 0):SI n M M ⟨s.said,s.t - 1⟩:=by
  obtain ⟨a,t⟩:=s
  cases t with
  | zero=>exact absurd rfl h
  | succ t=>
    refine ⟨Nat.le_of_succ_le_succ x.t,Nat.lt_of_le_of_lt ?_ x.p⟩
    show a.length + M * t + M ≤ a.length + M * (t + 1) + k
    exact nlt (Nat.le_of_eq (Nat.add_assoc ..)) (Nat.le_add_right _ _)
theorem SI.call {n M k:Nat} {s s1:Sa} (x:SI n M k s) (e:Lq M 0 s s1) (h:s1.t ≠ 0):SI n M M ⟨s1.said,s1.t - 1⟩:=by
  have y:=x.lq0 e
  obtain ⟨n,rfl⟩:=Nat.exists_eq_succ_of_ne_zero (n:=n) fun z=>h (Nat.le_zero.mp (z ▸ y.t))
  exact ⟨Nat.le_succ_of_le (y.turn h).t,(y.turn h).p⟩
theorem SI.lt {n M k:Nat} {s s1:Sa} (x:SI n M k s) (e:Lq M 0 s s1) (h:s1.t ≠ 0):s1.t - 1 < n:=by
  exact Nat.lt_of_lt_of_le (Nat.sub_lt (Nat.pos_of_ne_zero h) Nat.zero_lt_one) (x.lq0 e).t
theorem SI.said {n M k:Nat} {s s1:Sa} (x:SI n M k s) (e:Lq M 0 s s1):s1.said.length < lim:=by
  have:=(x.lq0 e).p; unfold pot at this; (exact Nat.lt_of_le_of_lt (nlt (Nat.le_add_right _ _) (Nat.le_add_right _ _)) ‹_›)
theorem not_f {p:Prop} [Decidable p] (h:¬ p):(!decide p) = true:=by rw [decide_eq_false h]; rfl
theorem not_t {p:Prop} [Decidable p] (h:p):(!decide p) = false:=by rw [decide_eq_true h]; rfl
theorem box_at {bx:List Int} {k:Nat} (hb:bx.length = 4) (hk:k < 4):seqAt (bx.map V.int) (k:Int) = some (.int (bx.getD k 0)):=by
  rw [seqAt_nat (by (exact Int.natCast_nonneg _)),Int.toNat_natCast,List.getElem?_map,List.getD_eq_getElem?_getD,List.getElem?_eq_getElem (hb ▸ hk)]; rfl
inductive BkI (Pr:Nat → List V → Prop) (Sp:Sm → Prop) (c:Nat) (C:CO) (Lo:LO) (n M z:Nat) (lp:Bool) (bl0:Bl) (bx0:List Int) (s0:Sa) (xs:List V) (W:List Int → Sa → Prop):Prop
  | mk (bl:Bl) (bx:List Int) (s:Sa):RL Pr bl xs → allS Sp bl → bl.ok c z lp → bl.sz ≤ M → SI n M bl.sz s → bx.length = 4 → evB C Lo bl0 bx0 s0 = evB C Lo bl bx s → W bx s → BkI Pr Sp c C Lo n M z lp bl0 bx0 s0 xs W
theorem rp_get {Pr:Nat → List V → Prop}:∀ (P:List Bl) (as:List Nat) (f:Nat),RP Pr P as → f < P.length → ∃ a,as[f]? = some a ∧ RB Pr (P.getD f .nil) a ∧ P.getD f .nil ∈ P
  | [],_,f,r,h=>absurd h (Nat.not_lt_zero _)
  | b :: P,_,0,r,h=>by
    obtain ⟨a,as,e,r,t⟩:=r
    subst e
    exact ⟨a,rfl,r,.head _⟩
  | b :: P,_,f + 1,r,h=>by
    obtain ⟨a,as,e,r,t⟩:=r
    subst e
    obtain ⟨x,h1,h2,h3⟩:=rp_get P as f t (Nat.lt_of_succ_lt_succ h)
    exact ⟨x,h1,h2,.tail _ h3⟩
section
variable {g:Genv} (G:DG g) {R b pa da sd ba M n d v u e:Nat} {as:List Nat} {P:List Bl} {h0 h:Hp} {L:List Cell} {Q:KE} {X:Nat → Hp → Prop} {s:Sa} {bx:List Int}
include G
theorem dtook_ok (w:Ow b h0 h (DL da sd pa s d L)) (hf:s.t = 0 → Q (.bool false) h) (ht:s.t ≠ 0 → ∀ h',Ow b h0 h' (DL da sd pa ⟨s.said,s.t - 1⟩ d L) → Q (.bool true) h'):callWp g (R + 2) 30 [.ref da] h Q X:=by
  refine enter (b:=dTookTurn_0) (loc:=[some (.ref da)]) G.f30 rfl rfl rfl rfl fun cz hc=>?_
  have ma:=G.ats
  have mm:=G.ms
  walk_at "w"
  refine b_d (fun q=>?_) (fun q=>?_)
  · walk_at "w"
    exact hf (by (exact Int.ofNat_inj.mp ‹_›))
  · have q':s.t ≠ 0:=fun z=>q (congrArg Int.ofNat z)
    walk_at "w"
    refine t_aO hc w (i := 0) rfl (ma _ _ rfl) rfl fun zz w => ?_; walk_at "w"
    rw [show (s.t:Int) - 1 = ((s.t - 1:Nat):Int) from (Int.ofNat_sub (Nat.pos_of_ne_zero q')).symm] at w
    exact ht q' _ w
omit G in
noncomputable def CallSp (g:Genv) (b pa da sd M:Nat) (h0:Hp) (c:Nat) (C:CO) (n d v:Nat):Prop:=∀ (f:Nat) (x:Int) (s:Sa) (R:Nat) (L:List Cell) (h:Hp) (Q:KE) (X:Nat → Hp → Prop),f < c → SI n M M s → s.t < n → 45 * v + 4 ≤ R → Ow b h0 h (DL da sd pa s d L) →
  (∀ w i s' h',C f x s = ((w,i),s') → Ow b h0 h' (DL da sd pa s' d L) → Q (.tup [.str w,.int i]) h') → (d = 8 → C f x s = ((13,102),s)) ∧ (d ≠ 8 → callWp g R 31 [.ref da,.int f,.int x] h Q X)
omit G in
noncomputable def ExpSp (g:Genv) (b pa da sd M:Nat) (h0:Hp) (c:Nat) (C:CO) (n d v:Nat):Prop:=∀ (t:T) (e R:Nat) (bx:List Int) (s:Sa) (ba:Nat) (L:List Cell) (h:Hp) (Q:KE) (X:Nat → Hp → Prop),t.ok c e → rmE v e ≤ R → SI n M 0 s → bx.length = 4 → Ow b h0 h (DL da sd pa s d ((ba,iL bx) :: L)) →
  (∀ w i s' h',evE C bx t s = ((w,i),s') → Ow b h0 h' (DL da sd pa s' d ((ba,iL bx) :: L)) → Q (.tup [.str w,.int i]) h') → callWp g R 33 [.ref da,t.v,.ref ba] h Q X
theorem exp_ok {c:Nat} {C:CO} (hC:CL M C) (hS:CallSp g b pa da sd M h0 c C n d v) (hd:d + v = 8):ExpSp g b pa da sd M h0 c C n d v
  | .num i=>fun e R bx s ba L h Q X ho hR si hb w hQ=>by
    obtain ⟨R,rfl⟩:=rE2 hR
    refine enter (b:=dExpression_0) (loc:=[some (.ref da),some (T.num i).v,some (.ref ba),none,none,none,none]) G.f33 rfl rfl rfl rfl fun cz hc=>?_
    walk_at "w"
    exact hQ _ _ _ _ rfl w
  | .box k=>fun e R bx s ba L h Q X ho hR si hb w hQ=>by
    obtain ⟨R,rfl⟩:=rE2 hR
    refine enter (b:=dExpression_0) (loc:=[some (.ref da),some (T.box k).v,some (.ref ba),none,none,none,none]) G.f33 rfl rfl rfl rfl fun cz hc=>?_
    have e1:=box_at hb ho.2
    walk_at "w"
    exact hQ _ _ _ _ rfl w
  | .call f t=>fun e R bx s ba L h Q X ho hR si hb w hQ=>by
    obtain ⟨R,rfl⟩:=rE4 hR ho.1
    refine enter (b:=dExpression_0) (loc:=[some (.ref da),some (T.call f t).v,some (.ref ba),none,none,none,none]) G.f33 rfl rfl rfl rfl fun cz hc=>?_
    have mm:=G.ms
    walk_at "w"
    refine enter (b:=dCalled_0) (loc:=[some (.ref da),some (T.call f t).v,some (.ref ba),none,none]) G.f32 rfl rfl rfl rfl fun cz hc=>?_
    have ma:=G.ats
    walk_at "w"
    refine exp_ok hC hS hd t (e + 1) _ bx s ba L h _ X ho.2.2 (rE_c hR ho.1) si hb w fun w1 n1 s1 h1 ea w=>?_
    by_cases q:w1 = 44
    · subst q
      walk_at "w"
      refine dtook_ok G w (fun z=>?_) (fun z h1 w=>?_)
      · walk_at "w"
        exact hQ _ _ _ _ (evE_ct ea z) w
      · have sp:=hS f n1 ⟨s1.said,s1.t - 1⟩ (R + 2) _ h1 Q X ho.2.1 (si.call (evE_q hC ea) z) (si.lt (evE_q hC ea) z) (rE_f hR ho.1) w fun w i s' h' e w=>hQ _ _ _ _ ((evE_cc ea z).trans e) w
        walk_at "w"
        refine b_d (fun q=>?_) (fun q=>?_)
        · walk_at "w"
          exact hQ _ _ _ _ ((evE_cc ea z).trans (sp.1 (Int.ofNat.inj q))) w
        · walk_at "w"
          exact sp.2 fun z=>q (congrArg Int.ofNat z)
    · walk_at "w"
      refine b_t (not_f q) ?_
      walk_at "w"
      exact hQ _ _ _ _ (evE_co ea q) w
  | .ari o a c'=>fun e R bx s ba L h Q X ho hR si hb w hQ=>by
    obtain ⟨R,rfl⟩:=rE2 hR
    refine enter (b:=dExpression_0) (loc:=[some (.ref da),some (T.ari o a c').v,some (.ref ba),none,none,none,none]) G.f33 rfl rfl rfl rfl fun cz hc=>?_
    have mm:=G.ms
    walk_at "w"
    refine b_f (ari3 o).1 ?_
    walk_at "w"
    refine b_f (ari3 o).2.1 ?_
    walk_at "w"
    refine b_f (ari3 o).2.2 ?_
    walk_at "w"
    refine exp_ok hC hS hd a (e + 1) _ bx s ba L h _ X ho.2.1 (rE_s hR ho.1) si hb w fun w1 n1 s1 h1 ea w=>?_
    by_cases q:w1 = 44
    · subst q
      walk_at "w"
      refine exp_ok hC hS hd c' (e + 1) _ bx s1 ba L _ _ X ho.2.2 (rE_s hR ho.1) (si.lq0 (evE_q hC ea)) hb w fun w2 n2 s2 h1 eb w=>?_
      by_cases q:w2 = 44
      · subst q
        cases o with
        | share=>
          walk_at "w"
          refine b_d (fun q=>?_) (fun q=>?_)
          · subst q
            walk_at "w"
            exact hQ _ _ _ _ (evE_a4 ea eb) w
          · walk_at "w"
            refine o_bind (bin_div _ _ _ q) ?_
            walk_at "w"
            exact hQ _ _ _ _ (evE_a3 ea eb fun z=>q z.2) w
        | _=>
          walk_at "w"
          exact hQ _ _ _ _ (evE_a3 ea eb fun z=>nomatch z.1) w
      · walk_at "w"
        refine b_t (not_f q) ?_
        walk_at "w"
        exact hQ _ _ _ _ (evE_a2 ea eb q) w
    · walk_at "w"
      refine b_t (not_f q) ?_
      walk_at "w"
      exact hQ _ _ _ _ (evE_a1 ea q) w
omit G in
noncomputable def StSp (g:Genv) (b pa da sd M:Nat) (h0:Hp) (c:Nat) (C:CO) (Lo:LO) (n d v:Nat) (st:Sm):Prop:=∀ (y:V) (z R:Nat) (lp:Bool) (bx:List Int) (s:Sa) (ba:Nat) (L:List Cell) (h:Hp) (Q:KE) (X:Nat → Hp → Prop),RS (PB b h0) st y → st.ok c z lp → st.sz ≤ M → rmB v z ≤ R + 1 → SI n M st.sz s → bx.length = 4 → Ow b h0 h (DL da sd pa s d ((ba,iL bx) :: L)) →
  (∀ w i bx' s' h',evS C Lo st bx s = ((w,i),bx',s') → Ow b h0 h' (DL da sd pa s' d ((ba,iL bx') :: L)) → Q (.tup [.str w,.int i]) h') → callWp g R 35 [.ref da,y,.ref ba] h Q X
omit G in
noncomputable def BlSp (g:Genv) (b pa da sd M:Nat) (h0:Hp) (c:Nat) (C:CO) (Lo:LO) (n d v:Nat):Prop:=∀ (bl:Bl) (a z R:Nat) (lp:Bool) (bx:List Int) (s:Sa) (ba:Nat) (L:List Cell) (h:Hp) (Q:KE) (X:Nat → Hp → Prop),RB (PB b h0) bl a → bl.ok c z lp → bl.sz ≤ M → rmB v z ≤ R → SI n M bl.sz s → bx.length = 4 → Ow b h0 h (DL da sd pa s d ((ba,iL bx) :: L)) →
  (∀ w i bx' s' h',evB C Lo bl bx s = ((w,i),bx',s') → Ow b h0 h' (DL da sd pa s' d ((ba,iL bx') :: L)) → Q (.tup [.str w,.int i]) h') → callWp g R 34 [.ref da,.ref a,.ref ba] h Q X
omit G in
noncomputable def LpSp (g:Genv) (b pa da sd M:Nat) (h0:Hp) (c:Nat) (Lo:LO) (n d v:Nat):Prop:=∀ (t:T) (bl:Bl) (a z R:Nat) (bx:List Int) (s:Sa) (ba:Nat) (L:List Cell) (h:Hp) (Q:KE) (X:Nat → Hp → Prop),t.ok c 1 → RB (PB b h0) bl a → bl.ok c (z + 1) true → bl.sz ≤ M → z < 8 → rmB v z ≤ R + 2 → SI n M 0 s → bx.length = 4 → Ow b h0 h (DL da sd pa s d ((ba,iL bx) :: L)) →
  (∀ w i bx' s' h',Lo t bl bx s = ((w,i),bx',s') → Ow b h0 h' (DL da sd pa s' d ((ba,iL bx') :: L)) → Q (.tup [.str w,.int i]) h') → callWp g R 36 [.ref da,.tup [.str 38,t.v,.ref a],.ref ba] h Q X
theorem blk_ok {c:Nat} {C:CO} {Lo:LO} (hC:CL M C) (hL:LL M Lo) {bl:Bl} (hs:allS (StSp g b pa da sd M h0 c C Lo n d v) bl) {a z:Nat} {lp:Bool} (rb:RB (PB b h0) bl a) (ho:bl.ok c z lp) (hz:bl.sz ≤ M) (hR:rmB v z ≤ R) (si:SI n M bl.sz s) (hb:bx.length = 4)
    (w:Ow b h0 h (DL da sd pa s d ((ba,iL bx) :: L))) (hQ:∀ w i bx' s' h',evB C Lo bl bx s = ((w,i),bx',s') → Ow b h0 h' (DL da sd pa s' d ((ba,iL bx') :: L)) → Q (.tup [.str w,.int i]) h'):callWp g R 34 [.ref da,.ref a,.ref ba] h Q X:=by
  obtain ⟨vs,pb,rl⟩:=rb
  obtain ⟨R,rfl⟩:=rB2 hR
  refine enter (b:=dBlock_0) (loc:=[some (.ref da),some (.ref a),some (.ref ba),none,none]) G.f34 rfl rfl rfl rfl fun cz hc=>?_
  have mm:=G.ms
  walk_at "w"
  refine f_seq (w.low pb.1 pb.2) rfl (fun xs l h'=>∃ x y,l = [some (.ref da),some (.ref a),some (.ref ba),x,y] ∧ BkI (PB b h0) (StSp g b pa da sd M h0 c C Lo n d v) c C Lo n M z lp bl bx s xs fun bx s=>Ow b h0 h' (DL da sd pa s d ((ba,iL bx) :: L))) ⟨_,_,rfl,.mk bl bx s rl hs ho hz si hb rfl w⟩ ?_ ?_
  · rintro l h' ⟨x,y,rfl,bl,bx,s,rl,hs,ho,hz,si,hb,ev,w⟩
    refine ⟨w.low pb.1 pb.2,?_⟩
    cases bl with
    | cons _ _=>obtain ⟨_,_,e,_⟩:=rl; cases e
    | nil=>
      walk_at "w"
      exact hQ _ _ _ _ _ ev w
  · rintro y ys l h' K ⟨x1,x2,rfl,bl,bx,s,rl,hs,ho,hz,si,hb,ev,w⟩ hK
    refine ⟨w.low pb.1 pb.2,_,rfl,?_⟩
    cases bl with
    | nil=>cases rl
    | cons st bl=>
      obtain ⟨y',ys',e,rs,rl⟩:=rl
      cases e
      walk_at "w"
      refine hs.1 y z _ lp bx s ba L _ _ X rs ho.1 (nlt (Nat.le_add_right _ _) hz) hR (si.le (Nat.le_add_right _ _)) hb w fun w1 n1 bx1 s1 h1 ea w=>?_
      by_cases q:w1 = 45
      · subst q
        have j:=evS_q hC hL (nlt (Nat.le_add_right _ _) hz) ea
        walk_at "w"
        exact hK _ _ ⟨_,_,rfl,bl,bx1,s1,rl,hs.2,ho.2,nlt (Nat.le_add_left _ _) hz,si.lq j.1,j.2.trans hb,ev.trans (evB_c ea),w⟩
      · walk_at "w"
        refine b_t (not_f q) ?_
        walk_at "w"
        exact hQ _ _ _ _ _ (ev.trans (evB_x ea q)) w
section
variable {c:Nat} {C:CO} {Lo:LO} (hC:CL M C) (hL:LL M Lo) (hE:ExpSp g b pa da sd M h0 c C n d v) (hl:LpSp g b pa da sd M h0 c Lo n d v)
include hC hE
omit hL hl in
theorem st_pre {st:Sm} {y p1:V} {t:T} {wd:Nat} {z R:Nat} {bx:List Int} {s:Sa} {ba:Nat} {L:List Cell} {h:Hp} {Q:KE} {X:Nat → Hp → Prop} (ht:st.tr = some t) (e0:tix y 0 = some (.str wd)) (e1:tix y 1 = some p1) (n1:(decide (wd = 41) || decide (wd = 42)) = false) (n2:decide (wd = 38) = false) (n3:decide (wd = 39) = false) (n4:decide (wd = 40) = false)
    (e2:(wd = 22 ∧ tix y 2 = some t.v) ∨ (¬ wd = 22 ∧ p1 = t.v)) (ok:t.ok c 1) (hR:rmB v z ≤ R + 3) (si:SI n M st.sz s) (hb:bx.length = 4) (w:Ow b h0 h (DL da sd pa s d ((ba,iL bx) :: L)))
    (hQ:∀ w i bx' s' h',evS C Lo st bx s = ((w,i),bx',s') → Ow b h0 h' (DL da sd pa s' d ((ba,iL bx') :: L)) → Q (.tup [.str w,.int i]) h')
    (k:∀ n1 s1 h1 cz,Is cz g R X → evE C bx t s = ((44,n1),s1) → Ow b h0 h1 (DL da sd pa s1 d ((ba,iL bx) :: L)) → WS cz dStatement_15 [some (.ref da),some y,some (.ref ba),some (.str wd),some t.v,some (.str 44),some (.int n1)] h1 (kEnd Q) Q):callWp g (R + 2) 35 [.ref da,y,.ref ba] h Q X:=by
  refine enter (b:=dStatement_0) (loc:=[some (.ref da),some y,some (.ref ba),none,none,none,none]) G.f35 rfl rfl rfl rfl fun cz hc=>?_
  have mm:=G.ms
  have fin:∀ w,callWp g (R + 1) 33 [.ref da,t.v,.ref ba] h (kAsu [some (.ref da),some y,some (.ref ba),some (.str wd),some t.v,w,none] [5,6] (kSeq cz dStatement_13 (kEnd Q) Q)) X:=by
    intro x
    refine hE t 1 _ bx s ba L _ _ X ok (rS_E hR) (si.le (Nat.zero_le _)) hb w fun w1 n1 s1 h1 ea w=>?_
    by_cases q:w1 = 44
    · subst q
      have k:=k n1 s1 h1 cz hc ea w
      repeat (first | exact k | walk_at "s")
    · walk_at "w"
      refine b_t (not_f q) ?_
      walk_at "w"
      exact hQ _ _ _ _ _ (evS_o ht ea q) w
  walk_at "w"
  refine b_f n1 ?_
  walk_at "w"
  refine b_f n2 ?_
  walk_at "w"
  refine b_f n3 ?_
  walk_at "w"
  refine b_f n4 ?_
  walk_at "w"
  rcases e2 with ⟨e2,e3⟩ | ⟨e2,e3⟩
  · refine b_t (decide_eq_true e2) ?_
    walk_at "w"
    exact fin none
  · refine b_f (decide_eq_false e2) ?_
    subst e3
    walk_at "w"
    exact fin none
include hL hl
mutual
theorem st_ok:∀ st:Sm,StSp g b pa da sd M h0 c C Lo n d v st
  | .set k t=>fun y z R lp bx s ba L h Q X rs ho hz hR si hb w hQ=>by
    cases rs
    obtain ⟨R,rfl⟩:=rS2 hR
    refine st_pre G hC hE (st:=.set k t) rfl rfl rfl rfl rfl rfl rfl (.inl ⟨rfl,rfl⟩) ho.2 hR si hb w hQ fun n1 s1 h1 cz hc ea w=>?_
    walk_at "w"
    refine t_lI 2 w rfl ⟨Int.natCast_nonneg k,Int.ofNat_lt.mpr (hb ▸ ho.1)⟩ fun h1 w=>?_
    walk_at "w"
    exact hQ _ _ _ _ _ (evS_set ea) w
  | .say t=>fun y z R lp bx s ba L h Q X rs ho hz hR si hb w hQ=>by
    cases rs
    obtain ⟨R,rfl⟩:=rS2 hR
    refine st_pre G hC hE (st:=.say t) rfl rfl rfl rfl rfl rfl rfl (.inr ⟨by decide,rfl⟩) ho hR si hb w hQ fun n1 s1 h1 cz hc ea w=>?_
    have mm:=G.ms
    have ma:=G.ats
    walk_at "w"
    refine p_appI 1 w rfl (si.said (evE_q hC ea)) fun h1 w=>?_
    walk_at "w"
    exact hQ _ _ _ _ _ (evS_say ea) w
  | .give t=>fun y z R lp bx s ba L h Q X rs ho hz hR si hb w hQ=>by
    cases rs
    obtain ⟨R,rfl⟩:=rS2 hR
    refine st_pre G hC hE (st:=.give t) rfl rfl rfl rfl rfl rfl rfl (.inr ⟨by decide,rfl⟩) ho hR si hb w hQ fun n1 s1 h1 cz hc ea w=>?_
    walk_at "w"
    exact hQ _ _ _ _ _ (evS_give ea) w
  | .raise t=>fun y z R lp bx s ba L h Q X rs ho hz hR si hb w hQ=>by
    cases rs
    obtain ⟨R,rfl⟩:=rS2 hR
    refine st_pre G hC hE (st:=.raise t) rfl rfl rfl rfl rfl rfl rfl (.inr ⟨by decide,rfl⟩) ho hR si hb w hQ fun n1 s1 h1 cz hc ea w=>?_
    walk_at "w"
    exact hQ _ _ _ _ _ (evS_raise ea) w
  | .if_ t a b'=>fun y z R lp bx s ba L h Q X rs ho hz hR si hb w hQ=>by
    obtain ⟨x1,x2,rfl,ra,rb⟩:=rs
    obtain ⟨R,rfl⟩:=rS2 hR
    refine st_pre G hC hE (st:=.if_ t a b') rfl rfl rfl rfl rfl rfl rfl (.inr ⟨by decide,rfl⟩) ho.1 hR si hb w hQ fun n1 s1 h1 cz hc ea w=>?_
    have mm:=G.ms
    have sj:SI n M (a.sz + b'.sz) s1:=si.lq0 (evE_q hC ea)
    by_cases q:n1 = 0
    · subst q
      walk_at "w"
      exact blk_ok G hC hL (sts_ok b') rb ho.2.2.2 (nlt (Nat.le_add_left _ _) hz) (rS_B hR ho.2.1) (sj.le (Nat.le_add_left _ _)) hb w fun w i bx' s' h' e w=>hQ _ _ _ _ _ ((evS_if0 ea).trans e) w
    · walk_at "w"
      refine b_t (not_f q) ?_
      walk_at "w"
      exact blk_ok G hC hL (sts_ok a) ra ho.2.2.1 (nlt (Nat.le_add_right _ _) hz) (rS_B hR ho.2.1) (sj.le (Nat.le_add_right _ _)) hb w fun w i bx' s' h' e w=>hQ _ _ _ _ _ ((evS_if1 ea q).trans e) w
  | .loop t a=>fun y z R lp bx s ba L h Q X rs ho hz hR si hb w hQ=>by
    obtain ⟨x,rfl,ra⟩:=rs
    obtain ⟨R,rfl⟩:=rS2 hR
    refine enter (b:=dStatement_0) (loc:=[some (.ref da),some (.tup [.str 38,t.v,.ref x]),some (.ref ba),none,none,none,none]) G.f35 rfl rfl rfl rfl fun cz hc=>?_
    have mm:=G.ms
    walk_at "w"
    exact hl t a x z _ bx s ba L h Q X ho.1 ra ho.2.2 hz ho.2.1 hR (si.le (Nat.zero_le _)) hb w hQ
  | .catch a o k b'=>fun y z R lp bx s ba L h Q X rs ho hz hR si hb w hQ=>by
    obtain ⟨x1,x2,rfl,ra,rb⟩:=rs
    obtain ⟨R,rfl⟩:=rS4 hR
    refine enter (b:=dStatement_0) (loc:=[some (.ref da),some (.tup [.str 39,.ref x1,optV o,.int k,.ref x2]),some (.ref ba),none,none,none,none]) G.f35 rfl rfl rfl rfl fun cz hc=>?_
    have mm:=G.ms
    walk_at "w"
    refine enter (b:=dCaught_0) (loc:=[some (.ref da),some (.tup [.str 39,.ref x1,optV o,.int k,.ref x2]),some (.ref ba),none]) G.f37 rfl rfl rfl rfl fun cz hc=>?_
    walk_at "w"
    refine blk_ok G hC hL (sts_ok a) ra ho.2.2.1 (nlt (Nat.le_add_right _ _) hz) (rL_B hR ho.2.1) (si.le (Nat.le_add_right _ _)) hb w fun w1 n1 bx1 s1 h1 ea w=>?_
    have fin0:∀ q:w1 = 13,∀ z:(o = none ∨ o = some n1),∀ h1,Ow b h0 h1 (DL da sd pa s1 d ((ba,iL (bx1.set k n1)) :: L)) → callWp g (R + 2) 34 [.ref da,.ref x2,.ref ba] h1 Q X:=by
      intro q z h1 w
      subst q
      have j:=evB_q hC hL (nlt (Nat.le_add_right _ _) hz) ea
      exact blk_ok G hC hL (sts_ok b') rb ho.2.2.2 (nlt (Nat.le_add_left _ _) hz) (rL_B hR ho.2.1) (si.lq j.1) (List.length_set.trans (j.2.trans hb)) w fun w i bx' s' h' e w=>hQ _ _ _ _ _ ((evS_c1 ea z).trans e) w
    have hk:0 ≤ (k:Int) ∧ (k:Int) < (bx1.length:Int):=⟨Int.natCast_nonneg k,Int.ofNat_lt.mpr ((((evB_q hC hL (nlt (Nat.le_add_right _ _) hz) ea).2).trans hb) ▸ ho.1)⟩
    by_cases q:w1 = 13
    · have fin:=fin0 q
      clear fin0
      subst q
      cases o with
      | none=>
        walk_at "w"
        refine t_lI 2 w rfl hk fun h1 w=>?_
        walk_at "w"
        exact fin (.inl rfl) _ w
      | some i=>
        by_cases q:i = n1
        · subst q
          walk_at "w"
          refine b_f (not_t rfl) ?_
          walk_at "w"
          refine t_lI 2 w rfl hk fun h1 w=>?_
          walk_at "w"
          exact fin (.inr rfl) _ w
        · walk_at "w"
          refine b_t (not_f q) ?_
          walk_at "w"
          exact hQ _ _ _ _ _ (evS_c0 ea fun z=>z.2.elim (fun z=>nomatch z) (fun z=>q (Option.some.inj z))) w
    · walk_at "w"
      refine b_t (not_f q) ?_
      walk_at "w"
      exact hQ _ _ _ _ _ (evS_c0 ea fun z=>q z.1) w
  | .end_ a b'=>fun y z R lp bx s ba L h Q X rs ho hz hR si hb w hQ=>by
    obtain ⟨x1,x2,rfl,ra,rb⟩:=rs
    obtain ⟨R,rfl⟩:=rS4 hR
    refine enter (b:=dStatement_0) (loc:=[some (.ref da),some (.tup [.str 40,.ref x1,.ref x2]),some (.ref ba),none,none,none,none]) G.f35 rfl rfl rfl rfl fun cz hc=>?_
    have mm:=G.ms
    walk_at "w"
    refine enter (b:=dEnded_0) (loc:=[some (.ref da),some (.tup [.str 40,.ref x1,.ref x2]),some (.ref ba),none,none]) G.f38 rfl rfl rfl rfl fun cz hc=>?_
    walk_at "w"
    refine blk_ok G hC hL (sts_ok a) ra ho.2.1 (nlt (Nat.le_add_right _ _) hz) (rL_B hR ho.1) (si.le (Nat.le_add_right _ _)) hb w fun w1 n1 bx1 s1 h1 ea w=>?_
    by_cases q:w1 = 33
    · subst q
      walk_at "w"
      exact hQ _ _ _ _ _ (evS_e0 ea) w
    · have j:=evB_q hC hL (nlt (Nat.le_add_right _ _) hz) ea
      walk_at "w"
      refine b_f (decide_eq_false q) ?_
      walk_at "w"
      refine blk_ok G hC hL (sts_ok b') rb ho.2.2 (nlt (Nat.le_add_left _ _) hz) (rL_B hR ho.1) (si.lq j.1) (j.2.trans hb) w fun w2 n2 bx2 s2 h1 eb w=>?_
      by_cases q2:w2 = 45
      · subst q2
        walk_at "w"
        exact hQ _ _ _ _ _ (evS_e1 ea q eb) w
      · walk_at "w"
        refine b_t (not_f q2) ?_
        walk_at "w"
        exact hQ _ _ _ _ _ (evS_e2 ea q eb q2) w
  | .leave=>fun y z R lp bx s ba L h Q X rs ho hz hR si hb w hQ=>by
    cases rs
    obtain ⟨R,rfl⟩:=rS2 hR
    refine enter (b:=dStatement_0) (loc:=[some (.ref da),some (.tup [.str 41]),some (.ref ba),none,none,none,none]) G.f35 rfl rfl rfl rfl fun cz hc=>?_
    walk_at "w"
    exact hQ _ _ _ _ _ rfl w
  | .next=>fun y z R lp bx s ba L h Q X rs ho hz hR si hb w hQ=>by
    cases rs
    obtain ⟨R,rfl⟩:=rS2 hR
    refine enter (b:=dStatement_0) (loc:=[some (.ref da),some (.tup [.str 42]),some (.ref ba),none,none,none,none]) G.f35 rfl rfl rfl rfl fun cz hc=>?_
    walk_at "w"
    exact hQ _ _ _ _ _ rfl w
theorem sts_ok:∀ bl:Bl,allS (StSp g b pa da sd M h0 c C Lo n d v) bl
  | .nil=>trivial
  | .cons st bl=>⟨st_ok st,sts_ok bl⟩
end
theorem bl_ok:BlSp g b pa da sd M h0 c C Lo n d v:=fun bl a z R lp bx s ba L h Q X rb ho hz hR si hb w hQ=>blk_ok G hC hL (sts_ok G hC hL hE hl bl) rb ho hz hR si hb w hQ
end
end
end Mine
end
noncomputable section
namespace Mine
theorem SI.succ {n M k:Nat} {s:Sa} (x:SI n M k s) (h:s.t ≠ 0):∃ m,n = m + 1:=⟨n - 1,by have:=x.t; (first | lia | omega)⟩
theorem lev_0 {P:List Bl} {d:Nat} {t:T} {bl:Bl} {bx:List Int} {s:Sa} (q:s.t = 0):∀ {k:Nat},(lev P k).2 d t bl bx s = ((33,0),bx,s)
  | 0=>rfl
  | _ + 1=>if_pos q
inductive LpI' (P:List Bl) (n M d:Nat) (t:T) (bl:Bl) (bx0:List Int) (s0:Sa) (k:Nat) (W:List Int → Sa → Prop):Prop
  | mk (bx:List Int) (s:Sa):k ≤ n → SI k M 0 s → bx.length = 4 → (lev P n).2 d t bl bx0 s0 = (lev P k).2 d t bl bx s → W bx s → LpI' P n M d t bl bx0 s0 k W
theorem rp_at {Pr:Nat → List V → Prop} {P:List Bl} {as:List Nat} {f:Nat} (r:RP Pr P as) (h:f < P.length):∃ a,seqAt (as.map V.ref) (f:Int) = some (.ref a) ∧ RB Pr (P.getD f .nil) a ∧ P.getD f .nil ∈ P:=by
  obtain ⟨a,ea,rb,hm⟩:=rp_get P as f r h
  exact ⟨a,by rw [seqAt_nat (by (exact Int.natCast_nonneg _)),Int.toNat_natCast,List.getElem?_map,ea]; rfl,rb,hm⟩
theorem okP_pos {P:List Bl} (h:okP P):0 < P.length:=Nat.pos_of_ne_zero fun e=>h.1 (List.length_eq_zero_iff.mp e)
section
variable {g:Genv} (G:DG g) {b pa da sd M:Nat} {as:List Nat} {P:List Bl} {h0:Hp} (S:PS b h0 pa as P M)
include G S
theorem lp_ok {n d v:Nat} (hn:∀ k,k < n → ExpSp g b pa da sd M h0 P.length ((lev P k).1 d) k d v ∧ BlSp g b pa da sd M h0 P.length ((lev P k).1 d) ((lev P k).2 d) k d v):LpSp g b pa da sd M h0 P.length ((lev P n).2 d) n d v:=by
  intro t bl a z R bx s ba L h Q X ht rb ho hz h8 hR si hb w hQ
  obtain ⟨R,rfl⟩:=rL3 hR
  refine enter (b:=dLoop_0) (loc:=[some (.ref da),some (.tup [.str 38,t.v,.ref a]),some (.ref ba),none,none,none]) G.f36 rfl rfl rfl rfl fun cz hc=>?_
  have mm:=G.ms
  walk_at "w"
  refine s_wh (fun k l h'=>∃ x y z,l = [some (.ref da),some (.tup [.str 38,t.v,.ref a]),some (.ref ba),x,y,z] ∧ LpI' P n M d t bl bx s k fun bx s=>Ow b h0 h' (DL da sd pa s d ((ba,iL bx) :: L))) n ⟨_,_,_,rfl,.mk bx s (Nat.le_refl _) si hb rfl w⟩ ?_
  rintro k l h' K ⟨x,y,z',rfl,bx,s,hk,si,hb,ev,w⟩ hK
  walk_at "w"
  refine dtook_ok G w (fun q=>?_) (fun q h1 w=>?_)
  · walk_at "w"
    exact hQ _ _ _ _ _ (ev.trans (lev_0 q)) w
  · obtain ⟨k,rfl⟩:=si.succ q
    have ev:=ev.trans (if_neg q)
    have sl:=lev_le S.sz k
    have sj:=si.turn q
    walk_at "w"
    refine (hn k hk).1 t 1 _ bx _ ba L _ _ X ht (rL_E hR) (sj.le (Nat.zero_le _)) hb w fun w1 n1 s1 h1 ea w=>?_
    by_cases q:w1 = 44
    · subst q
      walk_at "w"
      refine b_d (fun q=>?_) (fun q=>?_)
      · subst q
        walk_at "w"
        exact hQ _ _ _ _ _ (ev.trans (lp_0 ea)) w
      · have sj:=sj.lq0 (evE_q (sl.1 d) ea)
        walk_at "w"
        refine (hn k hk).2 bl a (z + 1) _ true bx s1 ba L _ _ X rb ho hz (rL_B hR h8) (sj.le hz) hb w fun w2 n2 bx2 s2 h1 eb w=>?_
        have j:=evB_q (sl.1 d) (sl.2 d) hz eb
        have nx:(w2 = 45 ∨ w2 = 42) → ∀ x y z,K [some (.ref da),some (.tup [.str 38,t.v,.ref a]),some (.ref ba),x,y,z] h1:=fun z x y z'=>hK k _ _ (Nat.lt_succ_self k) ⟨_,_,_,rfl,bx2,s2,Nat.le_of_succ_le hk,(sj.le (l:=bl.sz + 0) hz).lq j.1,j.2.trans hb,ev.trans (lp_n ea q eb z),w⟩
        clear hK
        by_cases q1:w2 = 41
        · subst q1
          walk_at "w"
          exact hQ _ _ _ _ _ (ev.trans (lp_l ea q eb)) w
        · walk_at "w"
          refine b_f (decide_eq_false q1) ?_
          walk_at "w"
          by_cases q2:w2 = 45
          · subst q2
            walk_at "w"
            exact nx (.inl rfl) _ _ _
          · by_cases q3:w2 = 42
            · subst q3
              walk_at "w"
              exact nx (.inr rfl) _ _ _
            · refine b_t (by rw [not_f q2,not_f q3]; rfl) ?_
              walk_at "w"
              exact hQ _ _ _ _ _ (ev.trans (lp_x ea q eb q1 fun z=>z.elim q2 q3)) w
    · walk_at "w"
      refine b_t (not_f q) ?_
      walk_at "w"
      exact hQ _ _ _ _ _ (ev.trans (lp_o ea q)) w
theorem dent_ok {n d v f R:Nat} {x:Int} {s:Sa} {L:List Cell} {h:Hp} {Q:KE} {X:Nat → Hp → Prop} (hB:BlSp g b pa da sd M h0 P.length ((lev P n).1 (d + 1)) ((lev P n).2 (d + 1)) n (d + 1) v) (hf:f < P.length) (si:SI n M M s) (hR:45 * (v + 1) + 4 ≤ R)
    (w:Ow b h0 h (DL da sd pa s d L)) (hQ:∀ w i s' h',entF ((lev P n).1 (d + 1)) ((lev P n).2 (d + 1)) (P.getD f .nil) x s = ((w,i),s') → Ow b h0 h' (DL da sd pa s' d L) → Q (.tup [.str w,.int i]) h'):callWp g R 31 [.ref da,.int f,.int x] h Q X:=by
  obtain ⟨R,rfl⟩:=rF2 hR
  refine enter (b:=dEntered_0) (loc:=[some (.ref da),some (.int f),some (.int x),none,none,none]) G.f31 rfl rfl rfl rfl fun cz hc=>?_
  have mm:=G.ms
  have ma:=G.ats
  obtain ⟨a,e1,rb,hm⟩:=rp_at S.r hf
  have hz:=S.sz _ hm
  walk_at "w"
  refine l_lstO w fun h1 a1 w=>?_
  walk_at "w"
  refine c_mapR (fun zz=>.int 0) (by decide) rfl rfl (fun zz zz=>rfl) w fun h2 a2 w=>?_
  walk_at "w"
  refine o_addO w (w.get 1 rfl) (w.get 0 rfl) (Nat.le_of_ble_eq_true rfl) fun h3 a3 w=>?_
  walk_at "w"
  have w:Ow b h0 h3 (DL da sd pa s d ((a3,iL [x,0,0,0]) :: L)):=((((w.drop 1).drop 1).front 2 rfl).front 2 rfl)
  refine t_aO hc w (i := 0) rfl (ma _ _ rfl) rfl fun zz w => ?_; walk_at "w"
  have w:Ow b h0 _ (DL da sd pa s (d + 1) ((a3,iL [x,0,0,0]) :: L)):=w
  have pl:=w.low S.p.1 S.p.2
  walk_at "w"
  refine hB _ a 1 _ false _ s a3 L _ _ X rb (S.ok.2 _ hm) hz (rF_B hR) (si.le hz) rfl w fun w1 n1 bx1 s1 h1 eb w=>?_
  walk_at "w"
  refine t_aO hc w (i := 0) rfl (ma _ _ rfl) rfl fun zz w => ?_; walk_at "w"
  have w:=w.drop 2
  rw [show ((d + 1:Nat):Int) - 1 = d from Int.add_sub_cancel (d:Int) 1] at w
  by_cases q:w1 = 45
  · subst q
    walk_at "w"
    exact hQ _ _ _ _ (ent_b eb) w
  · refine b_f (decide_eq_false q) ?_
    walk_at "w"
    by_cases q2:w1 = 43
    · subst q2
      walk_at "w"
      exact hQ _ _ _ _ (ent_g eb) w
    · refine b_f (decide_eq_false q2) ?_
      walk_at "w"
      exact hQ _ _ _ _ (ent_o eb q q2) w
theorem dcall_ok {n d v:Nat} (hd:d + v = 8) (hB:∀ m,m < n → ∀ d v,d + v = 8 → BlSp g b pa da sd M h0 P.length ((lev P m).1 d) ((lev P m).2 d) m d v):CallSp g b pa da sd M h0 P.length ((lev P n).1 d) n d v:=by
  intro f x s R L h Q X hf si hn hR w hQ
  cases n with
  | zero=>exact absurd hn (Nat.not_lt_zero _)
  | succ n=>
    refine ⟨fun q=>if_pos q,fun q=>?_⟩
    cases v with
    | zero=>exact absurd hd q
    | succ v=>exact dent_ok G S (hB n (Nat.lt_succ_self n) (d + 1) v ((Nat.succ_add_eq_add_succ d v).trans hd)) hf ⟨Nat.le_of_lt_succ hn,si.p⟩ hR w fun w1 i s' h' e w=>hQ w1 i s' h' ((if_neg q).trans e) w
theorem lev_ok:∀ n d v,d + v = 8 → ExpSp g b pa da sd M h0 P.length ((lev P n).1 d) n d v ∧ BlSp g b pa da sd M h0 P.length ((lev P n).1 d) ((lev P n).2 d) n d v:=by
  intro n
  induction n using Nat.strongRecOn with
  | _ n ih=>
    intro d v hd
    have sl:=lev_le S.sz n
    have hE:=exp_ok G (sl.1 d) (dcall_ok G S hd fun m hm d v hd=>(ih m hm d v hd).2) hd
    exact ⟨hE,bl_ok G (sl.1 d) (sl.2 d) hE (lp_ok G S fun k hk=>ih k hk d v hd)⟩
end
noncomputable def tellF (P:List Bl) (x:Int) (n:Nat):R1:=entF ((lev P n).1 1) ((lev P n).2 1) (P.getD 0 .nil) x ⟨[],n⟩
noncomputable def ansW (w:Nat):Nat:=if w = 44 then 34 else w
theorem told_ok {g:Genv} (G:DG g) {b pa M n r:Nat} {as:List Nat} {P:List Bl} {h0 h:Hp} {L:List Cell} {Q:KE} {X:Nat → Hp → Prop} {x:Int} (G':∀ {r:Nat} {Q:KE},Q .none h → callWp g (r + 44) 28 [.ref pa] h Q X) (w:Ow b h0 h L) (S:PS b h pa as P M) (hM:M * n + M < lim)
    (hQ:∀ w i s' h' sd,tellF P x n = ((w,i),s') → Ow b h0 h' ((sd,iL s'.said) :: L) → Q (.tup [.ref sd,.str (ansW w),.int i]) h'):callWp g (r + 370) 39 [.ref pa,.int x,.int n] h Q X:=by
  have w0:=w
  have w:=w.now
  refine enter (b:=cTold_0) (loc:=[some (.ref pa),some (.int x),some (.int n),none,none,none]) G.f39 rfl rfl rfl rfl fun cz hc=>?_
  have mm:=G.ms
  have ma:=G.ats
  walk_at "w"
  refine G' (r:=r + 325) ?_
  walk_at "w"
  refine k_new hc G.i2 ?_
  have w:=w.alloc (.inst 2 [])
  generalize h.length = da at w ⊢
  generalize h ++ [O.inst 2 []] = hh at w ⊢
  refine enter (b:=dInit_0) (loc:=[some (.ref da),some (.ref pa),some (.int n)]) G.f29 rfl rfl rfl rfl fun cz' hc'=>?_
  have hc2:=hc
  clear hc
  have hc:=hc'
  walk_at "w"
  refine t_aO hc w (i := 0) rfl (ma _ _ rfl) rfl fun zz w => ?_; walk_at "w"
  refine l_lstO w fun h2 sd w=>?_
  walk_at "w"
  refine t_aO hc w (i := 1) rfl (ma _ _ rfl) rfl fun zz w => ?_; walk_at "w"
  refine t_aO hc w (i := 1) rfl (ma _ _ rfl) rfl fun zz w => ?_; walk_at "w"
  refine t_aO hc w (i := 1) rfl (ma _ _ rfl) rfl fun zz w => ?_; walk_at "w"
  have w:Ow b h _ (DL da sd pa ⟨[],n⟩ 0 L):=w.front 1 rfl
  refine ⟨rfl,?_⟩
  clear hc
  have hc:=hc2
  walk_at "w"
  refine dent_ok G S (n:=n) (d:=0) (v:=7) (f:=0) (lev_ok G S n 1 7 rfl).2 (okP_pos S.ok) ⟨Nat.le_refl _,by unfold pot; dsimp only; rw [List.length_nil]; (first | lia | omega)⟩ (Nat.le_of_ble_eq_true rfl) w fun w1 n1 s1 h3 ev w=>?_
  have w:=w0.call w
  have hQ:=hQ w1 n1 s1 h3 sd ev (w.drop 0)
  unfold ansW at hQ
  walk_at "w"
  by_cases q:w1 = 44
  · subst q
    walk_at "w"
    exact hQ
  · rw [if_neg q] at hQ
    refine b_f (decide_eq_false q) ?_
    walk_at "w"
    exact hQ
end Mine
end
noncomputable section
namespace Mine
inductive RR where
  | r (x:Row)
  | pl (m:Int)
noncomputable def RR.v:RR → V
  | .r x=>x.v
  | .pl m=>.tup [.str 2,.int m]
inductive Ar where
  | lp (a b:Int)
  | en (l b:Int)
noncomputable def Ar.v:Ar → V
  | .lp a b=>.tup [.str 38,.int a,.int b]
  | .en l b=>.tup [.str 40,.int l,.int b]
structure K where
  rows:List RR
  marks:List Int
  str:List (Int × Int × Int)
  boxes:Int
  most:Int
namespace K
noncomputable abbrev m (k:K):Int:=k.marks.length
noncomputable abbrev n (k:K):Int:=k.rows.length
noncomputable def emit (k:K) (x:RR):K:=⟨k.rows ++ [x],k.marks,k.str,k.boxes,k.most⟩
noncomputable def mark (k:K):K:=⟨k.rows,k.marks ++ [0],k.str,k.boxes,k.most⟩
noncomputable def stands (k:K) (i:Int):K:=⟨k.rows,k.marks.set i.toNat k.n,k.str,k.boxes,k.most⟩
noncomputable def box (k:K):K:=⟨k.rows,k.marks,k.str,k.boxes + 1,if k.most < k.boxes + 1 then k.boxes + 1 else k.most⟩
noncomputable def stre (k:K) (f i:Int):K:=⟨k.rows,k.marks,k.str ++ [(f,k.n,i)],k.boxes,k.most⟩
noncomputable def len (k:K):Nat:=k.rows.length + k.marks.length + k.str.length
end K
noncomputable def mkE:T → K → K
  | .num i,k=>k.emit (.r (.put i))
  | .box b,k=>k.emit (.r (.get b))
  | .call f t,k=>(mkE t k).emit (.r (.call f))
  | .ari o a b,k=>(mkE b (mkE a k)).emit (.r (.ari o))
noncomputable def byWay (l b:Int) (k:K):K:=(((k.mark.emit (.pl k.m)).emit (.r (.set b))).emit (.r (.go l))).stands k.m
noncomputable def Ar.isE:Ar → Bool
  | .lp _ _=>false
  | .en _ _=>true
noncomputable def endsK:List Ar → K → K
  | [],k=>k
  | .lp _ _ :: A,k=>endsK A k
  | .en l b :: A,k=>endsK A (byWay l b k)
noncomputable def giveK (A:List Ar) (k:K):K:=if (A.filter Ar.isE).isEmpty then k.emit (.r .back) else ((endsK (A.filter Ar.isE) (k.box.emit (.r (.set k.boxes)))).emit (.r (.get k.boxes))).emit (.r .back)
noncomputable def leapK (nx:Bool):List Ar → K → K
  | [],k=>k
  | .lp a b :: A,k=>k.emit (.r (.go (if nx then a else b)))
  | .en l b :: A,k=>leapK nx A (byWay l b k)
noncomputable def pickK (k:K) (i:Int) (b:Nat) (mine:Int):K:=
  ((((((((((k.box.emit (.r (.set k.boxes))).emit (.r (.get k.boxes))).emit (.r (.put i))).emit (.r (.ari .sub))).emit (.r (.nought mine))).emit (.r (.get k.boxes))).emit (.r .raise)).stands mine).emit (.r (.get k.boxes))).emit (.r (.set b)))
noncomputable def catK (k:K) (b:Nat) (mine:Int):Option Int → K
  | none=>k.emit (.r (.set b))
  | some i=>pickK k i b mine
mutual
noncomputable def mkS:Sm → List Ar → K → K
  | .set b t,A,k=>(mkE t k).emit (.r (.set b))
  | .say t,A,k=>(mkE t k).emit (.r .say)
  | .give t,A,k=>giveK A (mkE t k)
  | .raise t,A,k=>(mkE t k).emit (.r .raise)
  | .if_ t a b,A,k=>(mkB b A (((mkB a A ((mkE t k.mark.mark).emit (.r (.nought k.m)))).emit (.r (.go k.mark.m))).stands k.m)).stands k.mark.m
  | .loop t a,A,k=>((mkB a (.lp k.m k.mark.m :: A) ((mkE t ((k.mark.mark.stands k.m).emit (.r .turn))).emit (.r (.nought k.mark.m)))).emit (.r (.go k.m))).stands k.mark.m
  | .catch a n b c,A,k=>(mkB c A (catK ((((mkB a A k.mark.mark.mark).stre k.mark.mark.mark.n k.m).emit (.r (.go k.mark.mark.m))).stands k.m) b k.mark.m n)).stands k.mark.mark.m
  | .end_ a b,A,k=>((mkB b A ((((byWay k.m k.mark.mark.mark.boxes ((((byWay k.m k.mark.mark.mark.boxes ((mkB a (.en k.m k.mark.mark.mark.boxes :: A) k.mark.mark.mark.box.box).stre k.mark.mark.mark.box.box.n k.mark.m)).emit (.r (.go k.mark.mark.m))).stands k.mark.m).emit (.r (.set k.mark.mark.mark.box.boxes)))).emit (.r (.get k.mark.mark.mark.box.boxes))).emit (.r .raise)).stands k.m)).emit (.r (.on k.mark.mark.mark.boxes))).stands k.mark.mark.m
  | .leave,A,k=>leapK false A k
  | .next,A,k=>leapK true A k
noncomputable def mkB:Bl → List Ar → K → K
  | .nil,A,k=>k
  | .cons s b,A,k=>mkB b A (mkS s A k)
end
noncomputable def funK (b:Bl) (k:K):K:=((mkB b [] ⟨k.rows,k.marks,k.str,4,k.most⟩).emit (.r (.put 0))).emit (.r .back)
noncomputable def funsK:List Bl → K → K
  | [],k=>k
  | b :: P,k=>funsK P (funK b k)
noncomputable def begsK:List Bl → K → List Int
  | [],k=>[]
  | b :: P,k=>k.n :: begsK P (funK b k)
noncomputable def K.zero:K:=⟨[],[],[],4,4⟩
noncomputable def resI (M:List Int) (i:Int):Int:=M.getD i.toNat 0
noncomputable def RR.res (M:List Int):RR → Row
  | .pl i=>.put (resI M i)
  | .r (.go i)=>.go (resI M i)
  | .r (.nought i)=>.nought (resI M i)
  | .r x=>x
noncomputable def resS (M:List Int) (x:Int × Int × Int):Int × Int × Int:=(x.1,x.2.1,resI M x.2.2)
structure Le (k k':K):Prop where
  h:k.len ≤ k'.len
  m:k.marks.length ≤ k'.marks.length
theorem Le.trans {k k' k'':K} (x:Le k k') (y:Le k' k''):Le k k'':=⟨nlt x.h y.h,nlt x.m y.m⟩
theorem Le.lt {k k':K} (x:Le k k') (h:k'.len < lim):k.len < lim:=Nat.lt_of_le_of_lt x.h h
theorem Le.refl {k:K}:Le k k:=⟨Nat.le_refl _,Nat.le_refl _⟩
theorem Le.mi {k k':K} (x:Le k.mark k'):0 ≤ k.m ∧ k.m < k'.m:=⟨Int.natCast_nonneg _,Int.ofNat_lt.mpr (Nat.lt_of_lt_of_le (by show k.marks.length < (k.marks ++ [0]).length; rw [List.length_append]; exact Nat.lt_succ_self _) x.m)⟩
section
variable {k:K} {x:RR} {i f l b:Int}
theorem le_emit:Le k (k.emit x):=⟨by unfold K.emit K.len; simp only [List.length_append]; (first | lia | omega),Nat.le_refl _⟩
theorem le_mark:Le k k.mark:=⟨by unfold K.mark K.len; simp only [List.length_append]; (first | lia | omega),by show _ ≤ (k.marks ++ [0]).length; rw [List.length_append]; exact Nat.le_succ _⟩
theorem le_stands:Le k (k.stands i):=⟨by unfold K.stands K.len; rw [List.length_set]; exact Nat.le_refl _,Nat.le_of_eq List.length_set.symm⟩
theorem le_box:Le k k.box:=⟨Nat.le_refl _,Nat.le_refl _⟩
theorem le_stre:Le k (k.stre f i):=⟨by unfold K.stre K.len; simp only [List.length_append]; (first | lia | omega),Nat.le_refl _⟩
theorem le_way:Le k (byWay l b k):=le_mark.trans (le_emit.trans (le_emit.trans (le_emit.trans le_stands)))
end
theorem le_E:∀ (t:T) (k:K),Le k (mkE t k)
  | .num i=>fun k=>le_emit
  | .box b=>fun k=>le_emit
  | .call f t=>fun k=>(le_E t k).trans le_emit
  | .ari o a b=>fun k=>(le_E a k).trans ((le_E b _).trans le_emit)
theorem le_ends:∀ (A:List Ar) (k:K),Le k (endsK A k)
  | []=>fun k=>.refl
  | .lp _ _ :: A=>fun k=>le_ends A k
  | .en l b :: A=>fun k=>le_way.trans (le_ends A _)
theorem le_leap (nx:Bool):∀ (A:List Ar) (k:K),Le k (leapK nx A k)
  | []=>fun k=>.refl
  | .lp _ _ :: A=>fun k=>le_emit
  | .en l b :: A=>fun k=>le_way.trans (le_leap nx A _)
theorem le_give (A:List Ar) (k:K):Le k (giveK A k):=by
  unfold giveK; split
  · exact le_emit
  · exact le_box.trans (le_emit.trans ((le_ends _ _).trans (le_emit.trans le_emit)))
theorem le_pick {k:K} {i:Int} {b:Nat} {m:Int}:Le k (pickK k i b m):=
  le_box.trans (le_emit.trans (le_emit.trans (le_emit.trans (le_emit.trans (le_emit.trans (le_emit.trans (le_emit.trans (le_stands.trans (le_emit.trans le_emit)))))))))
theorem le_cat {k:K} {b:Nat} {m:Int}:∀ n:Option Int,Le k (catK k b m n)
  | none=>le_emit
  | some i=>le_pick
mutual
theorem le_S:∀ (s:Sm) (A:List Ar) (k:K),Le k (mkS s A k)
  | .set b t=>fun A k=>(le_E t k).trans le_emit
  | .say t=>fun A k=>(le_E t k).trans le_emit
  | .give t=>fun A k=>(le_E t k).trans (le_give A _)
  | .raise t=>fun A k=>(le_E t k).trans le_emit
  | .if_ t a b=>fun A k=>le_mark.trans (le_mark.trans ((le_E t _).trans (le_emit.trans ((le_B a A _).trans (le_emit.trans (le_stands.trans ((le_B b A _).trans le_stands)))))))
  | .loop t a=>fun A k=>le_mark.trans (le_mark.trans (le_stands.trans (le_emit.trans ((le_E t _).trans (le_emit.trans ((le_B a _ _).trans (le_emit.trans le_stands)))))))
  | .catch a n b c=>fun A k=>le_mark.trans (le_mark.trans (le_mark.trans ((le_B a A _).trans (le_stre.trans (le_emit.trans (le_stands.trans ((le_cat n).trans ((le_B c A _).trans le_stands))))))))
  | .end_ a b=>fun A k=>le_mark.trans (le_mark.trans (le_mark.trans (le_box.trans (le_box.trans ((le_B a _ _).trans (le_stre.trans (le_way.trans (le_emit.trans (le_stands.trans (le_emit.trans (le_way.trans (le_emit.trans (le_emit.trans (le_stands.trans ((le_B b A _).trans (le_emit.trans le_stands))))))))))))))))
  | .leave=>fun A k=>le_leap false A k
  | .next=>fun A k=>le_leap true A k
theorem le_B:∀ (s:Bl) (A:List Ar) (k:K),Le k (mkB s A k)
  | .nil=>fun A k=>.refl
  | .cons s b=>fun A k=>(le_S s A k).trans (le_B b A _)
end
end Mine
end
noncomputable section
namespace Mine
noncomputable def kAt (c f:Nat):Bool:=Nat.beq c 3 && kAtl.contains f
noncomputable def kMs (c m:Nat):Option Nat:=if Nat.beq c 3 then kTab.lookup m else none
structure KG (g:Genv):Prop where
  f40:g.fn 40 = some kInit
  f41:g.fn 41 = some kMark
  f42:g.fn 42 = some kStands
  f43:g.fn 43 = some kBox
  f44:g.fn 44 = some kFunction
  f45:g.fn 45 = some kBlock
  f46:g.fn 46 = some kExpression
  f47:g.fn 47 = some kStatement
  f48:g.fn 48 = some kByWayOf
  f49:g.fn 49 = some kGive
  f50:g.fn 50 = some kLeap
  f51:g.fn 51 = some kChoice
  f52:g.fn 52 = some kLoop
  f53:g.fn 53 = some kCatching
  f54:g.fn 54 = some kPicked
  f55:g.fn 55 = some kEnding
  f56:g.fn 56 = some kToldRow
  f57:g.fn 57 = some cMade
  i3:g.init 3 = some 40
  ms:Mts g kMs
  ats:Ats g kAt
structure KA where
  k:Nat
  r:Nat
  m:Nat
  s:Nat
  a:Nat
noncomputable abbrev ML (a:KA) (k:K) (A:List Ar) (L:List Cell):List Cell:=(a.k,.inst 3 [(5,.ref a.r),(55,.ref a.m),(6,.ref a.s),(56,.ref a.a),(3,.int k.boxes),(57,.int k.most)]) :: (a.r,.list (k.rows.map RR.v)) :: (a.m,iL k.marks) :: (a.s,.list (k.str.map strV)) :: (a.a,.list (A.map Ar.v).reverse) :: L
section
variable {b:Nat} {h0 h:Hp} {a:KA} {k:K} {A:List Ar} {L:List Cell} {Q:KE} {c:Cz} {loc:Locs} {KN:KS} {KR:KE}
theorem K.len_rows {x:RR} (h:(k.emit x).len < lim):(k.rows.map RR.v).length < lim:=by
  rw [List.length_map]; exact Nat.lt_of_le_of_lt (nlt (Nat.le_add_right _ _) (Nat.le_add_right _ _)) (le_emit.lt h)
theorem p_emit (x:RR) {v:V} (w:Ow b h0 h (ML a k A L)) (e:x.v = v) (hl:(k.emit x).len < lim) (q:∀ h',Ow b h0 h' (ML a (k.emit x) A L) → Q .none h'):kApp a.r Q [v] h:=by
  refine p_appO w (i:=1) rfl (K.len_rows hl) fun h' w=>q h' ?_
  rw [← e,show k.rows.map RR.v ++ [x.v] = (k.emit x).rows.map RR.v from (List.map_append (l₂:=[x])).symm] at w
  exact w
theorem p_stre {f n i:Int} (w:Ow b h0 h (ML a k A L)) (en:n = k.n) (hl:(k.stre f i).len < lim) (q:∀ h',Ow b h0 h' (ML a (k.stre f i) A L) → Q .none h'):kApp a.s Q [.tup [.int f,.int n,.int i]] h:=by
  subst en
  refine p_appO w (i:=3) rfl (by rw [List.length_map]; exact Nat.lt_of_le_of_lt (Nat.le_add_left _ _) (le_stre.lt hl)) fun h' w=>q h' ?_
  rw [show k.str.map strV ++ [.tup [.int f,.int k.n,.int i]] = (k.stre f i).str.map strV from (List.map_append (l₂:=[(f,k.n,i)])).symm] at w
  exact w
theorem p_ar (x:Ar) {v:V} (w:Ow b h0 h (ML a k A L)) (e:x.v = v) (hl:A.length < lim) (q:∀ h',Ow b h0 h' (ML a k (x :: A) L) → Q .none h'):kApp a.a Q [v] h:=by
  refine p_appO w (i:=4) rfl (by rw [List.length_reverse,List.length_map]; exact hl) fun h' w=>q h' ?_
  rw [← e,show (A.map Ar.v).reverse ++ [x.v] = ((x :: A).map Ar.v).reverse from List.reverse_cons.symm] at w
  exact w
theorem p_pop {x:Ar} (w:Ow b h0 h (ML a k (x :: A) L)) (q:∀ h',Ow b h0 h' (ML a k A L) → Q x.v h'):kMeth c loc 1 [] Q (.ref a.a) h:=by
  have e:((x :: A).map Ar.v).reverse = (A.map Ar.v).reverse ++ [x.v]:=List.reverse_cons
  refine m_popO w (i:=4) rfl (by rw [e]; exact List.getLast?_concat) fun h' w=>q h' ?_
  rw [e,List.dropLast_concat] at w
  exact w
theorem f_rev {t:List Nat} {bd:S} {a:Nat} {xs ys:List V} (hx:h[a]? = some (.list xs)) (e:xs.reverse = ys) (I:List V → KS) (hi:I ys loc h) (hn:∀ l h',I [] l h' → h'[a]? = some (.list xs) ∧ KN l h')
    (hs:∀ x xs' l h' K,I (x :: xs') l h' → (∀ l2 h2,I xs' l2 h2 → K l2 h2) → h'[a]? = some (.list xs) ∧ ∃ l',bindT t x l = some l' ∧ WS c bd l' h' K KR):kFor c t .rev bd loc KN KR (.ref a) h:=by
  refine onS (a:=(ys,fun h'=>h'[a]? = some (.list xs))) ?_ (for_go I hn hs ys loc h hi)
  show ((h[a]?).bind O.asL).map (fun xs=>(xs.reverse,fun h':Hp=>h'[a]? = some (.list xs))) = _
  rw [hx]
  show some (xs.reverse,_) = _
  rw [e]
end
section
variable {g:Genv} (G:KG g) {R b:Nat} {h0 h:Hp} {a:KA} {k:K} {A:List Ar} {L:List Cell} {Q:KE} {X:Nat → Hp → Prop}
include G
theorem mark_ok (w:Ow b h0 h (ML a k A L)) (hl:k.mark.len < lim) (hQ:∀ h',Ow b h0 h' (ML a k.mark A L) → Q (.int k.m) h'):callWp g (R + 2) 41 [.ref a.k] h Q X:=by
  refine enter (b:=kMark_0) (loc:=[some (.ref a.k)]) G.f41 rfl rfl rfl rfl fun cz hc=>?_
  have ma:=G.ats
  have mm:=G.ms
  walk_at "w"
  refine p_appI 2 w rfl (by have:=(le_mark (k:=k)).lt hl; unfold K.len at this; (first | lia | omega)) fun h' w=>?_
  have w:Ow b h0 h' (ML a k.mark A L):=w
  walk_at "w"
  rw [List.length_map,show ((k.mark.marks.length:Nat):Int) - 1 = k.m from by unfold K.mark K.m; rw [List.length_append,List.length_singleton]; (first | lia | omega)]
  exact hQ _ w
theorem stands_ok {i:Int} (w:Ow b h0 h (ML a k A L)) (hi:0 ≤ i ∧ i < k.m) (hQ:∀ h',Ow b h0 h' (ML a (k.stands i) A L) → Q .none h'):callWp g (R + 2) 42 [.ref a.k,.int i] h Q X:=by
  refine enter (b:=kStands_0) (loc:=[some (.ref a.k),some (.int i)]) G.f42 rfl rfl rfl rfl fun cz hc=>?_
  have ma:=G.ats
  have mm:=G.ms
  walk_at "w"
  rw [List.length_map]
  refine t_lI 2 w rfl hi fun h' w=>?_
  have w:Ow b h0 h' (ML a (k.stands i) A L):=w
  walk_at "w"
  exact hQ _ w
omit G in
theorem bi_max (x y:Int) (h:Hp):biop .max [.int x,.int y] h = some (.int (if x < y then y else x),h):=rfl
theorem box_ok (w:Ow b h0 h (ML a k A L)) (hQ:∀ h',Ow b h0 h' (ML a k.box A L) → Q (.int k.boxes) h'):callWp g (R + 2) 43 [.ref a.k] h Q X:=by
  refine enter (b:=kBox_0) (loc:=[some (.ref a.k)]) G.f43 rfl rfl rfl rfl fun cz hc=>?_
  have ma:=G.ats
  have mm:=G.ms
  walk_at "w"
  refine t_aO hc w (i := 0) rfl (ma _ _ rfl) rfl fun zz w => ?_; walk_at "w"
  refine o_bid (bi_max _ _ _) ?_
  walk_at "w"
  refine t_aO hc w (i := 0) rfl (ma _ _ rfl) rfl fun zz w => ?_; walk_at "w"
  rw [show k.boxes + 1 - 1 = k.boxes from Int.add_sub_cancel _ _]
  exact hQ _ w
theorem mkE_ok {c:Nat}:∀ (t:T) (e R:Nat) (k:K) (h:Hp) (Q:KE),t.ok c e → rmE 0 e ≤ R → (mkE t k).len < lim → Ow b h0 h (ML a k A L) → (∀ h',Ow b h0 h' (ML a (mkE t k) A L) → Q .none h') → callWp g R 46 [.ref a.k,t.v] h Q X
  | .num i=>fun e R k h Q ho hR hl w hQ=>by
    obtain ⟨R,rfl⟩:=rE2 hR
    refine enter (b:=kExpression_0) (loc:=[some (.ref a.k),some (T.num i).v]) G.f46 rfl rfl rfl rfl fun cz hc=>?_
    have ma:=G.ats
    walk_at "w"
    refine p_emit (.r (.put i)) w rfl hl fun h' w=>?_
    walk_at "w"
    exact hQ _ w
  | .box i=>fun e R k h Q ho hR hl w hQ=>by
    obtain ⟨R,rfl⟩:=rE2 hR
    refine enter (b:=kExpression_0) (loc:=[some (.ref a.k),some (T.box i).v]) G.f46 rfl rfl rfl rfl fun cz hc=>?_
    have ma:=G.ats
    walk_at "w"
    refine p_emit (.r (.get i)) w rfl hl fun h' w=>?_
    walk_at "w"
    exact hQ _ w
  | .call f t=>fun e R k h Q ho hR hl w hQ=>by
    obtain ⟨R,rfl⟩:=rE2 hR
    refine enter (b:=kExpression_0) (loc:=[some (.ref a.k),some (T.call f t).v]) G.f46 rfl rfl rfl rfl fun cz hc=>?_
    have ma:=G.ats
    have mm:=G.ms
    walk_at "w"
    refine mkE_ok t (e + 1) _ k h _ ho.2.2 (rE_s hR ho.1) (le_emit.lt hl) w fun h' w=>?_
    walk_at "w"
    refine p_emit (.r (.call f)) w rfl hl fun h' w=>?_
    walk_at "w"
    exact hQ _ w
  | .ari o t u=>fun e R k h Q ho hR hl w hQ=>by
    obtain ⟨R,rfl⟩:=rE2 hR
    refine enter (b:=kExpression_0) (loc:=[some (.ref a.k),some (T.ari o t u).v]) G.f46 rfl rfl rfl rfl fun cz hc=>?_
    have ma:=G.ats
    have mm:=G.ms
    have b1:(mkE u (mkE t k)).len < lim:=le_emit.lt hl
    walk_at "w"
    refine b_f (ari3 o).1 ?_
    walk_at "w"
    refine b_f (ari3 o).2.1 ?_
    walk_at "w"
    refine b_f (ari3 o).2.2 ?_
    walk_at "w"
    refine mkE_ok t (e + 1) _ k h _ ho.2.1 (rE_s hR ho.1) ((le_E u _).lt b1) w fun h' w=>?_
    walk_at "w"
    refine mkE_ok u (e + 1) _ _ h' _ ho.2.2 (rE_s hR ho.1) b1 w fun h' w=>?_
    walk_at "w"
    refine p_emit (.r (.ari o)) w rfl hl fun h' w=>?_
    walk_at "w"
    exact hQ _ w
theorem way_ok {l i:Int} (w:Ow b h0 h (ML a k A L)) (hl:(byWay l i k).len < lim) (hQ:∀ h',Ow b h0 h' (ML a (byWay l i k) A L) → Q .none h'):callWp g (R + 3) 48 [.ref a.k,(Ar.en l i).v] h Q X:=by
  refine enter (b:=kByWayOf_0) (loc:=[some (.ref a.k),some (Ar.en l i).v,none]) G.f48 rfl rfl rfl rfl fun cz hc=>?_
  have ma:=G.ats
  have mm:=G.ms
  have b4:(((k.mark.emit (.pl k.m)).emit (.r (.set i))).emit (.r (.go l))).len < lim:=le_stands.lt hl
  have b3:=le_emit.lt b4
  have b2:=le_emit.lt b3
  walk_at "w"
  refine mark_ok G w (le_emit.lt b2) fun h' w=>?_
  walk_at "w"
  refine p_emit (.pl k.m) w rfl b2 fun h' w=>?_
  walk_at "w"
  refine p_emit (.r (.set i)) w rfl b3 fun h' w=>?_
  walk_at "w"
  refine p_emit (.r (.go l)) w rfl b4 fun h' w=>?_
  walk_at "w"
  refine stands_ok G w (Le.mi (k:=k) (le_emit.trans (le_emit.trans le_emit))) fun h' w=>?_
  walk_at "w"
  exact hQ _ w
end
end Mine
end
noncomputable section
namespace Mine
inductive EnI (A0:List Ar) (k0:K) (xs:List V) (W:K → Prop):Prop
  | mk (A:List Ar) (k:K):xs = A.map Ar.v → (∀ x ∈ A,x.isE = true) → endsK A0 k0 = endsK A k → W k → EnI A0 k0 xs W
inductive LeI (nx:Bool) (A0:List Ar) (k0:K) (xs:List V) (W:K → Prop):Prop
  | mk (A:List Ar) (k:K):xs = A.map Ar.v → leapK nx A0 k0 = leapK nx A k → W k → LeI nx A0 k0 xs W
section
variable {g:Genv} (G:KG g) {R b:Nat} {h0 h:Hp} {a:KA} {k:K} {A:List Ar} {L:List Cell} {Q:KE} {X:Nat → Hp → Prop}
include G
omit G in
theorem fl_rev (A:List Ar):(A.reverse.filter Ar.isE).map Ar.v = ((A.filter Ar.isE).map Ar.v).reverse:=by rw [List.filter_reverse,List.map_reverse]
omit G in
noncomputable def Ar.ev:Ar → List V
  | .lp _ _=>[]
  | .en x y=>[(Ar.en x y).v]
omit G in
theorem fm_ev:∀ A:List Ar,A.flatMap Ar.ev = (A.filter Ar.isE).map Ar.v
  | []=>rfl
  | .lp _ _ :: A=>fm_ev A
  | .en x y :: A=>congrArg ((Ar.en x y).v :: ·) (fm_ev A)
theorem give_ok {t:T} {c:Nat} (ho:t.ok c 1) (hA:A.length ≤ 8) (w:Ow b h0 h (ML a k A L)) (hl:(giveK A (mkE t k)).len < lim) (hR:rmE 0 1 ≤ R + 1) (hQ:∀ h',Ow b h0 h' (ML a (giveK A (mkE t k)) A L) → Q .none h'):callWp g (R + 4) 49 [.ref a.k,t.v] h Q X:=by
  refine enter (b:=kGive_0) (loc:=[some (.ref a.k),some t.v,none,none,none]) G.f49 rfl rfl rfl rfl fun cz hc=>?_
  have ma:=G.ats
  have mm:=G.ms
  walk_at "w"
  refine mkE_ok G t 1 _ k h _ ho (nlt hR (Nat.le_add_right _ 2)) ((le_give A _).lt hl) w fun h' w=>?_
  generalize mkE t k = k at w hl hQ
  walk_at "w"
  refine c_each Ar.v Ar.ev A.reverse (by rw [List.map_reverse]; exact w.get 4 rfl) rfl rfl ((fm_ev _).trans (fl_rev A)) (by rw [List.length_reverse,List.length_map]; exact nlt (List.length_filter_le ..) (nlt hA (by decide))) (fun z hz K hK=>w_cons ?_) w fun h' x w=>?_
  · cases z with
    | lp x y => walk_at "w"; exact hK
    | en x y => walk_at "w"; refine w_nil ?_; walk_at "w"; exact hK
  have w:Ow b h0 h' (ML a k A ((x,.list ((A.filter Ar.isE).map Ar.v).reverse) :: L)):=((((w.front 5 rfl).front 5 rfl).front 5 rfl).front 5 rfl).front 5 rfl
  unfold giveK at hl hQ
  cases hE:A.filter Ar.isE with
  | nil=>
    rw [hE] at w hl hQ
    walk_at "w"
    refine p_emit (.r .back) w rfl hl fun h' w=>?_
    walk_at "w"
    exact hQ _ (w.drop 5)
  | cons z zs=>
    rw [if_neg (by rw [hE]; exact Bool.false_ne_true)] at hl hQ
    have hlen:0 < (A.filter Ar.isE).length:=hE ▸ Nat.succ_pos _
    have hE2:∀ x ∈ A.filter Ar.isE,x.isE = true:=fun x hx=>(List.mem_filter.mp hx).2
    clear hE
    generalize A.filter Ar.isE = E at *
    have b3:=le_emit.lt hl
    have b2:=le_emit.lt b3
    have b1:=(le_ends E _).lt b2
    walk_at "w"
    refine b_t (decide_eq_true (by rw [List.length_reverse,List.length_map]; (first | lia | omega))) ?_
    walk_at "w"
    refine box_ok G w fun h' w=>?_
    walk_at "w"
    refine p_emit (.r (.set k.boxes)) w rfl b1 fun h' w=>?_
    walk_at "w"
    refine f_rev (w.get 5 rfl) (List.reverse_reverse _) (fun xs l h'=>∃ y,l = [some (.ref a.k),some t.v,some (.ref x),some (.int k.boxes),y] ∧ EnI E (k.box.emit (.r (.set k.boxes))) xs fun k=>Ow b h0 h' (ML a k A ((x,.list (E.map Ar.v).reverse) :: L))) ⟨_,rfl,.mk E _ rfl hE2 rfl w⟩ ?_ ?_
    · rintro l h' ⟨y,rfl,E',k',e,_,ev,w⟩
      have e:=List.map_eq_nil_iff.mp e.symm
      subst e
      refine ⟨w.get 5 rfl,?_⟩
      rw [ev] at hl hQ b3
      walk_at "w"
      refine p_emit (.r (.get k.boxes)) w rfl b3 fun h' w=>?_
      walk_at "w"
      refine p_emit (.r .back) w rfl hl fun h' w=>?_
      walk_at "w"
      exact hQ _ (w.drop 5)
    · rintro y ys l h' K ⟨u,rfl,E',k',e,hE2,ev,w⟩ hK
      refine ⟨w.get 5 rfl,_,rfl,?_⟩
      cases E' with
      | nil=>cases e
      | cons x' E'=>
        cases e
        cases x' with
        | lp _ _=>exact absurd (hE2 _ (.head _)) Bool.false_ne_true
        | en l i=>
          walk_at "w"
          refine way_ok G w ((le_ends E' _).lt (show (endsK (.en l i :: E') k').len < lim from ev ▸ b2)) fun h' w=>?_
          walk_at "w"
          exact hK _ _ ⟨_,rfl,E',_,rfl,fun x hx=>hE2 x (.tail _ hx),ev,w⟩
theorem leap_ok {nx:Bool} (w:Ow b h0 h (ML a k A L)) (hl:(leapK nx A k).len < lim) (hQ:∀ h',Ow b h0 h' (ML a (leapK nx A k) A L) → Q .none h'):callWp g (R + 4) 50 [.ref a.k,.str (if nx then 42 else 41)] h Q X:=by
  refine enter (b:=kLeap_0) (loc:=[some (.ref a.k),some (.str (if nx then 42 else 41)),none]) G.f50 rfl rfl rfl rfl fun cz hc=>?_
  have ma:=G.ats
  have mm:=G.ms
  walk_at "w"
  refine f_rev (w.get 4 rfl) (List.reverse_reverse _) (fun xs l h'=>∃ y,l = [some (.ref a.k),some (.str (if nx then 42 else 41)),y] ∧ LeI nx A k xs fun k=>Ow b h0 h' (ML a k A L)) ⟨_,rfl,.mk A _ rfl rfl w⟩ ?_ ?_
  · rintro l h' ⟨y,rfl,E',k',e,ev,w⟩
    have e:=List.map_eq_nil_iff.mp e.symm
    subst e
    refine ⟨w.get 4 rfl,?_⟩
    rw [ev] at hQ
    walk_at "w"
    exact hQ _ w
  · rintro y ys l h' K ⟨u,rfl,E',k',e,ev,w⟩ hK
    refine ⟨w.get 4 rfl,_,rfl,?_⟩
    cases E' with
    | nil=>cases e
    | cons x' E'=>
      cases e
      rw [ev] at hl hQ
      cases x' with
      | lp x y=>
        cases nx <;> (walk_at "w"; refine p_emit (.r (.go _)) w rfl hl fun h' w => ?_; walk_at "w"; exact hQ _ w)
      | en l i=>
        walk_at "w"
        refine way_ok G w ((le_leap nx E' _).lt hl) fun h' w=>?_
        walk_at "w"
        exact hK _ _ ⟨_,rfl,E',_,rfl,ev,w⟩
end
end Mine
end
noncomputable section
namespace Mine
section
variable {z R:Nat}
theorem rK8 (h:rmB 0 z ≤ R + 1):∃ k,R = k + 8:=pe (Nat.le_of_succ_le_succ (nlt (by decide) (ge19 h)))
theorem rK_E (h:rmB 0 z ≤ R + 9):rmE 0 1 ≤ R + 6:=Nat.le_of_add_le_add_right (b:=3) (ge19 h)
theorem rK_G (h:rmB 0 z ≤ R + 9) (hz:z ≤ 8):rmE 0 1 ≤ R + 4:=Nat.le_of_add_le_add_right (b:=5) (nlt (nlt (by decide) (Nat.add_le_add_right (Nat.add_le_add_left (Nat.mul_le_mul_left 3 (Nat.sub_le_sub_left hz 9)) _) 19)) h)
theorem rK_B (h:rmB 0 z ≤ R + 9) (hz:z < 8):rmB 0 (z + 1) ≤ R + 6:=Nat.le_of_add_le_add_right (b:=3) (nlt (Nat.le_of_eq (rB_eq hz)) h)
end
inductive MbI (Pr:Nat → List V → Prop) (Sp:Sm → Prop) (c z:Nat) (lp:Bool) (A:List Ar) (bl0:Bl) (k0:K) (xs:List V) (W:K → Prop):Prop
  | mk (bl:Bl) (k:K):RL Pr bl xs → allS Sp bl → bl.ok c z lp → mkB bl0 A k0 = mkB bl A k → W k → MbI Pr Sp c z lp A bl0 k0 xs W
section
variable {g:Genv} (G:KG g) {R b c:Nat} {h0 h:Hp} {a:KA} {k:K} {A:List Ar} {L:List Cell} {Q:KE} {X:Nat → Hp → Prop}
include G
omit G in
noncomputable def MkSp (g:Genv) (b:Nat) (h0:Hp) (c:Nat) (a:KA) (X:Nat → Hp → Prop) (st:Sm):Prop:=∀ (y:V) (z R:Nat) (lp:Bool) (A:List Ar) (k:K) (L:List Cell) (h:Hp) (Q:KE),RS (PB b h0) st y → st.ok c z lp → z ≤ 8 → A.length < z → rmB 0 z ≤ R + 1 → (mkS st A k).len < lim → Ow b h0 h (ML a k A L) →
  (∀ h',Ow b h0 h' (ML a (mkS st A k) A L) → Q .none h') → callWp g R 47 [.ref a.k,y] h Q X
theorem mkb_ok {bl:Bl} (hs:allS (MkSp g b h0 c a X) bl) {x z:Nat} {lp:Bool} (rb:RB (PB b h0) bl x) (ho:bl.ok c z lp) (hz:z ≤ 8) (hA:A.length < z) (hR:rmB 0 z ≤ R) (hl:(mkB bl A k).len < lim)
    (w:Ow b h0 h (ML a k A L)) (hQ:∀ h',Ow b h0 h' (ML a (mkB bl A k) A L) → Q .none h'):callWp g R 45 [.ref a.k,.ref x] h Q X:=by
  obtain ⟨vs,pb,rl⟩:=rb
  obtain ⟨R,rfl⟩:=rB2 hR
  refine enter (b:=kBlock_0) (loc:=[some (.ref a.k),some (.ref x),none]) G.f45 rfl rfl rfl rfl fun cz hc=>?_
  have mm:=G.ms
  walk_at "w"
  refine f_seq (w.low pb.1 pb.2) rfl (fun xs l h'=>∃ y,l = [some (.ref a.k),some (.ref x),y] ∧ MbI (PB b h0) (MkSp g b h0 c a X) c z lp A bl k xs fun k=>Ow b h0 h' (ML a k A L)) ⟨_,rfl,.mk bl k rl hs ho rfl w⟩ ?_ ?_
  · rintro l h' ⟨y,rfl,bl',k',rl,hs,ho,ev,w⟩
    refine ⟨w.low pb.1 pb.2,?_⟩
    cases bl' with
    | cons _ _=>obtain ⟨_,_,e,_⟩:=rl; cases e
    | nil=>
      rw [ev] at hQ
      walk_at "w"
      exact hQ _ w
  · rintro y ys l h' K ⟨x1,rfl,bl',k',rl,hs,ho,ev,w⟩ hK
    refine ⟨w.low pb.1 pb.2,_,rfl,?_⟩
    cases bl' with
    | nil=>cases rl
    | cons st bl'=>
      obtain ⟨y',ys',e,rs,rl⟩:=rl
      cases e
      walk_at "w"
      refine hs.1 y z _ lp A k' L _ _ rs ho.1 hz hA hR ((le_B bl' A _).lt (show (mkB (.cons st bl') A k').len < lim from ev ▸ hl)) w fun h1 w=>?_
      walk_at "w"
      exact hK _ _ ⟨_,rfl,bl',_,rl,hs.2,ho.2,ev,w⟩
theorem st_row {t:T} {y p1:V} {wd:Nat} {R z:Nat} {x:RR} (ho:t.ok c 1) (hR:rmB 0 z ≤ R + 9) (e0:tix y 0 = some (.str wd)) (e1:tix y 1 = some p1)
    (e2:(wd = 22 ∧ tix y 2 = some t.v ∧ .tup [.str 22,p1] = x.v) ∨ (¬ wd = 22 ∧ (decide (wd = 23) || decide (wd = 31)) = true ∧ p1 = t.v ∧ .tup [.str wd] = x.v))
    (hl:((mkE t k).emit x).len < lim) (w:Ow b h0 h (ML a k A L)) (hQ:∀ h',Ow b h0 h' (ML a ((mkE t k).emit x) A L) → Q .none h'):callWp g (R + 8) 47 [.ref a.k,y] h Q X:=by
  refine enter (b:=kStatement_0) (loc:=[some (.ref a.k),some y,none]) G.f47 rfl rfl rfl rfl fun cz hc=>?_
  have ma:=G.ats
  have mm:=G.ms
  walk_at "w"
  rcases e2 with ⟨e2,e3,e4⟩ | ⟨e2,e3,e4,e5⟩
  · refine b_t (decide_eq_true e2) ?_
    walk_at "w"
    refine mkE_ok G t 1 _ k h _ ho (nlt (rK_E hR) (Nat.le_succ _)) (le_emit.lt hl) w fun h' w=>?_
    walk_at "w"
    refine p_emit x w e4.symm hl fun h' w=>?_
    walk_at "w"
    exact hQ _ w
  · refine b_f (decide_eq_false e2) ?_
    subst e4
    walk_at "w"
    refine b_t e3 ?_
    walk_at "w"
    refine mkE_ok G t 1 _ k h _ ho (nlt (rK_E hR) (Nat.le_succ _)) (le_emit.lt hl) w fun h' w=>?_
    walk_at "w"
    refine p_emit x w e5.symm hl fun h' w=>?_
    walk_at "w"
    exact hQ _ w
end
end Mine
end
noncomputable section
namespace Mine
section
variable {g:Genv} (G:KG g) {R b c:Nat} {h0 h:Hp} {a:KA} {k:K} {A:List Ar} {L:List Cell} {Q:KE} {X:Nat → Hp → Prop}
include G
theorem pick_ok {x1 x2:Nat} {i mine:Int} {j:Nat} (hm:0 ≤ mine ∧ mine < k.m) (hl:(pickK k i j mine).len < lim) (w:Ow b h0 h (ML a k A L)) (hQ:∀ h',Ow b h0 h' (ML a (pickK k i j mine) A L) → Q .none h'):callWp g (R + 3) 54 [.ref a.k,.tup [.str 39,.ref x1,.int i,.int j,.ref x2],.int mine] h Q X:=by
  refine enter (b:=kPicked_0) (loc:=[some (.ref a.k),some (.tup [.str 39,.ref x1,.int i,.int j,.ref x2]),some (.int mine),none]) G.f54 rfl rfl rfl rfl fun cz hc=>?_
  have ma:=G.ats
  have mm:=G.ms
  have b9:=le_emit.lt hl
  have b8:=le_stands.lt (le_emit.lt b9)
  have b7:=le_emit.lt b8
  have b6:=le_emit.lt b7
  have b5:=le_emit.lt b6
  have b4:=le_emit.lt b5
  have b3:=le_emit.lt b4
  have b2:=le_emit.lt b3
  walk_at "w"
  refine box_ok G w fun h' w=>?_
  walk_at "w"
  refine p_emit (.r (.set k.boxes)) w rfl b2 fun h' w=>?_
  walk_at "w"
  refine p_emit (.r (.get k.boxes)) w rfl b3 fun h' w=>?_
  walk_at "w"
  refine p_emit (.r (.put i)) w rfl b4 fun h' w=>?_
  walk_at "w"
  refine p_emit (.r (.ari .sub)) w rfl b5 fun h' w=>?_
  walk_at "w"
  refine p_emit (.r (.nought mine)) w rfl b6 fun h' w=>?_
  walk_at "w"
  refine p_emit (.r (.get k.boxes)) w rfl b7 fun h' w=>?_
  walk_at "w"
  refine p_emit (.r .raise) w rfl b8 fun h' w=>?_
  walk_at "w"
  refine stands_ok G w hm fun h' w=>?_
  walk_at "w"
  refine p_emit (.r (.get k.boxes)) w rfl b9 fun h' w=>?_
  walk_at "w"
  refine p_emit (.r (.set j)) w rfl hl fun h' w=>?_
  walk_at "w"
  exact hQ _ w
theorem choice_ok {x1 x2 z:Nat} {lp:Bool} {p q:Bl} {t:T} (ho:t.ok c 1) (hp:allS (MkSp g b h0 c a X) p) (hq:allS (MkSp g b h0 c a X) q) (ra:RB (PB b h0) p x1) (rb:RB (PB b h0) q x2) (op:p.ok c (z + 1) lp) (oq:q.ok c (z + 1) lp) (hl:(mkS (.if_ t p q) A k).len < lim) (hR:rmB 0 z ≤ R + 9) (hz:z < 8) (hA:A.length < z) (w:Ow b h0 h (ML a k A L)) (hQ:∀ h',Ow b h0 h' (ML a (mkS (.if_ t p q) A k) A L) → Q .none h'):callWp g (R + 7) 51 [.ref a.k,.tup [.str 37,t.v,.ref x1,.ref x2]] h Q X:=by
  refine enter (b:=kChoice_0) (loc:=[some (.ref a.k),some (.tup [.str 37,t.v,.ref x1,.ref x2]),none,none]) G.f51 rfl rfl rfl rfl fun cz hc=>?_
  have ma:=G.ats
  have mm:=G.ms
  have b6:=le_stands.lt hl
  have b5:=le_stands.lt ((le_B q A _).lt b6)
  have b4:=le_emit.lt b5
  have b3:=(le_B p A _).lt b4
  have b2:=le_emit.lt b3
  have b1:=(le_E t _).lt b2
  walk_at "w"
  refine mark_ok G w (le_mark.lt b1) fun h' w=>?_
  walk_at "w"
  refine mark_ok G w b1 fun h' w=>?_
  walk_at "w"
  refine mkE_ok G t 1 _ _ _ _ ho (rK_E hR) b2 w fun h' w=>?_
  walk_at "w"
  refine p_emit (.r (.nought k.m)) w rfl b3 fun h' w=>?_
  walk_at "w"
  refine mkb_ok G hp ra op hz (Nat.lt_succ_of_lt hA) (rK_B hR hz) b4 w fun h' w=>?_
  walk_at "w"
  refine p_emit (.r (.go k.mark.m)) w rfl b5 fun h' w=>?_
  walk_at "w"
  refine stands_ok G w (Le.mi (k:=k) (le_mark.trans ((le_E t _).trans (le_emit.trans ((le_B p A _).trans le_emit))))) fun h' w=>?_
  walk_at "w"
  refine mkb_ok G hq rb oq hz (Nat.lt_succ_of_lt hA) (rK_B hR hz) b6 w fun h' w=>?_
  walk_at "w"
  refine stands_ok G w (Le.mi (k:=k.mark) ((le_E t _).trans (le_emit.trans ((le_B p A _).trans (le_emit.trans (le_stands.trans (le_B q A _))))))) fun h' w=>?_
  walk_at "w"
  exact hQ _ w
theorem loopk_ok {x1 z:Nat} {p:Bl} {t:T} (ho:t.ok c 1) (hp:allS (MkSp g b h0 c a X) p) (ra:RB (PB b h0) p x1) (op:p.ok c (z + 1) true) (hl:(mkS (.loop t p) A k).len < lim) (hR:rmB 0 z ≤ R + 9) (hz:z < 8) (hA:A.length < z) (w:Ow b h0 h (ML a k A L)) (hQ:∀ h',Ow b h0 h' (ML a (mkS (.loop t p) A k) A L) → Q .none h'):callWp g (R + 7) 52 [.ref a.k,.tup [.str 38,t.v,.ref x1]] h Q X:=by
  refine enter (b:=kLoop_0) (loc:=[some (.ref a.k),some (.tup [.str 38,t.v,.ref x1]),none,none]) G.f52 rfl rfl rfl rfl fun cz hc=>?_
  have ma:=G.ats
  have mm:=G.ms
  have b6:=le_stands.lt hl
  have b5:=le_emit.lt b6
  have b4:=(le_B p _ _).lt b5
  have b3:=le_emit.lt b4
  have b2:=(le_E t _).lt b3
  have b1:=le_stands.lt (le_emit.lt b2)
  walk_at "w"
  refine mark_ok G w (le_mark.lt b1) fun h' w=>?_
  walk_at "w"
  refine mark_ok G w b1 fun h' w=>?_
  walk_at "w"
  refine stands_ok G w (Le.mi (k:=k) le_mark) fun h' w=>?_
  walk_at "w"
  refine p_emit (.r .turn) w rfl b2 fun h' w=>?_
  walk_at "w"
  refine mkE_ok G t 1 _ _ _ _ ho (rK_E hR) b3 w fun h' w=>?_
  walk_at "w"
  refine p_emit (.r (.nought k.mark.m)) w rfl b4 fun h' w=>?_
  walk_at "w"
  refine p_ar (.lp k.m k.mark.m) w rfl (Nat.lt_of_lt_of_le hA (nlt (Nat.le_of_lt hz) (by decide))) fun h' w=>?_
  walk_at "w"
  refine mkb_ok G (A:=.lp k.m k.mark.m :: A) hp ra op hz (Nat.succ_lt_succ hA) (rK_B hR hz) b5 w fun h' w=>?_
  walk_at "w"
  refine p_pop w fun h' w=>?_
  walk_at "w"
  refine p_emit (.r (.go k.m)) w rfl b6 fun h' w=>?_
  walk_at "w"
  refine stands_ok G w (Le.mi (k:=k.mark) (le_stands.trans (le_emit.trans ((le_E t _).trans (le_emit.trans ((le_B p _ _).trans le_emit)))))) fun h' w=>?_
  walk_at "w"
  exact hQ _ w
theorem catching_ok {x1 x2 z:Nat} {lp:Bool} {p q:Bl} {o:Option Int} {j:Nat} (hp:allS (MkSp g b h0 c a X) p) (hq:allS (MkSp g b h0 c a X) q) (ra:RB (PB b h0) p x1) (rb:RB (PB b h0) q x2) (op:p.ok c (z + 1) lp) (oq:q.ok c (z + 1) lp) (hl:(mkS (.catch p o j q) A k).len < lim) (hR:rmB 0 z ≤ R + 9) (hz:z < 8) (hA:A.length < z) (w:Ow b h0 h (ML a k A L)) (hQ:∀ h',Ow b h0 h' (ML a (mkS (.catch p o j q) A k) A L) → Q .none h'):callWp g (R + 7) 53 [.ref a.k,.tup [.str 39,.ref x1,optV o,.int j,.ref x2]] h Q X:=by
  refine enter (b:=kCatching_0) (loc:=[some (.ref a.k),some (.tup [.str 39,.ref x1,optV o,.int j,.ref x2]),none,none,none,none]) G.f53 rfl rfl rfl rfl fun cz hc=>?_
  have ma:=G.ats
  have mm:=G.ms
  have b6:=le_stands.lt hl
  have b5:=(le_B q A _).lt b6
  have b4:=le_stands.lt ((le_cat o).lt b5)
  have b3:=le_emit.lt b4
  have b2:=le_stre.lt b3
  have b1:=(le_B p A _).lt b2
  walk_at "w"
  refine mark_ok G w (le_mark.lt (le_mark.lt b1)) fun h' w=>?_
  walk_at "w"
  refine mark_ok G w (le_mark.lt b1) fun h' w=>?_
  walk_at "w"
  refine mark_ok G w b1 fun h' w=>?_
  walk_at "w"
  refine mkb_ok G hp ra op hz (Nat.lt_succ_of_lt hA) (rK_B hR hz) b2 w fun h' w=>?_
  walk_at "w"
  rw [List.length_map,List.length_map]
  refine p_stre w rfl b3 fun h' w=>?_
  walk_at "w"
  refine p_emit (.r (.go k.mark.mark.m)) w rfl b4 fun h' w=>?_
  walk_at "w"
  refine stands_ok G w (Le.mi (k:=k) (le_mark.trans (le_mark.trans ((le_B p A _).trans (le_stre.trans le_emit))))) fun h' w=>?_
  walk_at "w"
  have l2:Le k.mark.mark.mark ((((mkB p A k.mark.mark.mark).stre k.mark.mark.mark.n k.m).emit (.r (.go k.mark.mark.m))).stands k.m):=(le_B p A _).trans (le_stre.trans (le_emit.trans le_stands))
  have hm:=Le.mi (k:=k.mark) (le_mark.trans l2)
  change ∀ h',Ow b h0 h' (ML a ((mkB q A (catK ((((mkB p A k.mark.mark.mark).stre k.mark.mark.mark.n k.m).emit (.r (.go k.mark.mark.m))).stands k.m) j k.mark.m o)).stands k.mark.mark.m) A L) → Q .none h' at hQ
  generalize ((((mkB p A k.mark.mark.mark).stre k.mark.mark.mark.n k.m).emit (.r (.go k.mark.mark.m))).stands k.m) = k2 at *
  cases o with
  | none=>
    walk_at "w"
    refine p_emit (.r (.set j)) w rfl b5 fun h' w=>?_
    walk_at "w"
    refine mkb_ok G hq rb oq hz (Nat.lt_succ_of_lt hA) (rK_B hR hz) b6 w fun h' w=>?_
    walk_at "w"
    refine stands_ok G w (Le.mi (k:=k.mark.mark) (l2.trans (le_emit.trans (le_B q A _)))) fun h' w=>?_
    walk_at "w"
    exact hQ _ w
  | some i=>
    walk_at "w"
    refine pick_ok G (R:=R + 3) hm b5 w fun h' w=>?_
    walk_at "w"
    refine mkb_ok G hq rb oq hz (Nat.lt_succ_of_lt hA) (rK_B hR hz) b6 w fun h' w=>?_
    walk_at "w"
    refine stands_ok G w (Le.mi (k:=k.mark.mark) (l2.trans (le_pick.trans (le_B q A _)))) fun h' w=>?_
    walk_at "w"
    exact hQ _ w
theorem ending_ok {x1 x2 z:Nat} {lp:Bool} {p q:Bl} (hp:allS (MkSp g b h0 c a X) p) (hq:allS (MkSp g b h0 c a X) q) (ra:RB (PB b h0) p x1) (rb:RB (PB b h0) q x2) (op:p.ok c (z + 1) lp) (oq:q.ok c (z + 1) lp) (hl:(mkS (.end_ p q) A k).len < lim) (hR:rmB 0 z ≤ R + 9) (hz:z < 8) (hA:A.length < z) (w:Ow b h0 h (ML a k A L)) (hQ:∀ h',Ow b h0 h' (ML a (mkS (.end_ p q) A k) A L) → Q .none h'):callWp g (R + 7) 55 [.ref a.k,.tup [.str 40,.ref x1,.ref x2]] h Q X:=by
  refine enter (b:=kEnding_0) (loc:=[some (.ref a.k),some (.tup [.str 40,.ref x1,.ref x2]),none,none,none,none,none,none]) G.f55 rfl rfl rfl rfl fun cz hc=>?_
  have ma:=G.ats
  have mm:=G.ms
  have b13:=le_stands.lt hl
  have b12:=le_emit.lt b13
  have b11:=le_stands.lt ((le_B q A _).lt b12)
  have b10:=le_emit.lt b11
  have b9:=le_emit.lt b10
  have b8:=le_way.lt b9
  have b7:=le_stands.lt (le_emit.lt b8)
  have b6:=le_emit.lt b7
  have b5:=le_way.lt b6
  have b4:=le_stre.lt b5
  have b3:=le_box.lt (le_box.lt ((le_B p _ _).lt b4))
  walk_at "w"
  refine mark_ok G w (le_mark.lt (le_mark.lt b3)) fun h' w=>?_
  walk_at "w"
  refine mark_ok G w (le_mark.lt b3) fun h' w=>?_
  walk_at "w"
  refine mark_ok G w b3 fun h' w=>?_
  walk_at "w"
  refine box_ok G w fun h' w=>?_
  walk_at "w"
  refine box_ok G w fun h' w=>?_
  walk_at "w"
  refine p_ar (.en k.m k.mark.mark.mark.boxes) w rfl (Nat.lt_of_lt_of_le hA (nlt (Nat.le_of_lt hz) (by decide))) fun h' w=>?_
  walk_at "w"
  refine mkb_ok G (A:=.en k.m k.mark.mark.mark.boxes :: A) hp ra op hz (Nat.succ_lt_succ hA) (rK_B hR hz) b4 w fun h' w=>?_
  walk_at "w"
  refine p_pop w fun h' w=>?_
  walk_at "w"
  rw [List.length_map,List.length_map]
  refine p_stre w rfl b5 fun h' w=>?_
  walk_at "w"
  refine way_ok G (R:=R + 3) w b6 fun h' w=>?_
  walk_at "w"
  refine p_emit (.r (.go k.mark.mark.m)) w rfl b7 fun h' w=>?_
  walk_at "w"
  refine stands_ok G w (Le.mi (k:=k.mark) (le_mark.trans (le_box.trans (le_box.trans ((le_B p _ _).trans (le_stre.trans (le_way.trans le_emit))))))) fun h' w=>?_
  walk_at "w"
  refine p_emit (.r (.set k.mark.mark.mark.box.boxes)) w rfl b8 fun h' w=>?_
  walk_at "w"
  refine way_ok G (R:=R + 3) w b9 fun h' w=>?_
  walk_at "w"
  refine p_emit (.r (.get k.mark.mark.mark.box.boxes)) w rfl b10 fun h' w=>?_
  walk_at "w"
  refine p_emit (.r .raise) w rfl b11 fun h' w=>?_
  walk_at "w"
  refine stands_ok G w (Le.mi (k:=k) (le_mark.trans (le_mark.trans (le_box.trans (le_box.trans ((le_B p _ _).trans (le_stre.trans (le_way.trans (le_emit.trans (le_stands.trans (le_emit.trans (le_way.trans (le_emit.trans le_emit))))))))))))) fun h' w=>?_
  walk_at "w"
  refine mkb_ok G hq rb oq hz (Nat.lt_succ_of_lt hA) (rK_B hR hz) b12 w fun h' w=>?_
  walk_at "w"
  refine p_emit (.r (.on k.mark.mark.mark.boxes)) w rfl b13 fun h' w=>?_
  walk_at "w"
  refine stands_ok G w (Le.mi (k:=k.mark.mark) (le_box.trans (le_box.trans ((le_B p _ _).trans (le_stre.trans (le_way.trans (le_emit.trans (le_stands.trans (le_emit.trans (le_way.trans (le_emit.trans (le_emit.trans (le_stands.trans ((le_B q A _).trans le_emit)))))))))))))) fun h' w=>?_
  walk_at "w"
  exact hQ _ w
mutual
theorem mks_ok:∀ st:Sm,MkSp g b h0 c a X st
  | .set j t=>fun y z R lp A k L h Q rs ho hz hA hR hl w hQ=>by
    cases rs
    obtain ⟨R,rfl⟩:=rK8 hR
    exact st_row G (x:=.r (.set j)) ho.2 hR rfl rfl (.inl ⟨rfl,rfl,rfl⟩) hl w hQ
  | .say t=>fun y z R lp A k L h Q rs ho hz hA hR hl w hQ=>by
    cases rs
    obtain ⟨R,rfl⟩:=rK8 hR
    exact st_row G (x:=.r .say) ho hR rfl rfl (.inr ⟨by decide,rfl,rfl,rfl⟩) hl w hQ
  | .raise t=>fun y z R lp A k L h Q rs ho hz hA hR hl w hQ=>by
    cases rs
    obtain ⟨R,rfl⟩:=rK8 hR
    exact st_row G (x:=.r .raise) ho hR rfl rfl (.inr ⟨by decide,rfl,rfl,rfl⟩) hl w hQ
  | .give t=>fun y z R lp A k L h Q rs ho hz hA hR hl w hQ=>by
    cases rs
    obtain ⟨R,rfl⟩:=rK8 hR
    refine enter (b:=kStatement_0) (loc:=[some (.ref a.k),some (.tup [.str 43,t.v]),none]) G.f47 rfl rfl rfl rfl fun cz hc=>?_
    have mm:=G.ms
    walk_at "w"
    refine give_ok G (R:=R + 3) ho (nlt (Nat.le_of_lt hA) hz) w hl (rK_G hR hz) fun h' w=>?_
    walk_at "w"
    exact hQ _ w
  | .leave=>fun y z R lp A k L h Q rs ho hz hA hR hl w hQ=>by
    cases rs
    obtain ⟨R,rfl⟩:=rK8 hR
    refine enter (b:=kStatement_0) (loc:=[some (.ref a.k),some (.tup [.str 41]),none]) G.f47 rfl rfl rfl rfl fun cz hc=>?_
    have mm:=G.ms
    walk_at "w"
    refine leap_ok G (R:=R + 3) (nx:=false) w hl fun h' w=>?_
    walk_at "w"
    exact hQ _ w
  | .next=>fun y z R lp A k L h Q rs ho hz hA hR hl w hQ=>by
    cases rs
    obtain ⟨R,rfl⟩:=rK8 hR
    refine enter (b:=kStatement_0) (loc:=[some (.ref a.k),some (.tup [.str 42]),none]) G.f47 rfl rfl rfl rfl fun cz hc=>?_
    have mm:=G.ms
    walk_at "w"
    refine leap_ok G (R:=R + 3) (nx:=true) w hl fun h' w=>?_
    walk_at "w"
    exact hQ _ w
  | .if_ t p q=>fun y z R lp A k L h Q rs ho hz hA hR hl w hQ=>by
    obtain ⟨x1,x2,rfl,ra,rb⟩:=rs
    obtain ⟨R,rfl⟩:=rK8 hR
    refine enter (b:=kStatement_0) (loc:=[some (.ref a.k),some (.tup [.str 37,t.v,.ref x1,.ref x2]),none]) G.f47 rfl rfl rfl rfl fun cz hc=>?_
    have mm:=G.ms
    walk_at "w"
    refine choice_ok G ho.1 (mkbs_ok p) (mkbs_ok q) ra rb ho.2.2.1 ho.2.2.2 hl hR ho.2.1 hA w fun h' w=>?_
    walk_at "w"
    exact hQ _ w
  | .loop t p=>fun y z R lp A k L h Q rs ho hz hA hR hl w hQ=>by
    obtain ⟨x1,rfl,ra⟩:=rs
    obtain ⟨R,rfl⟩:=rK8 hR
    refine enter (b:=kStatement_0) (loc:=[some (.ref a.k),some (.tup [.str 38,t.v,.ref x1]),none]) G.f47 rfl rfl rfl rfl fun cz hc=>?_
    have mm:=G.ms
    walk_at "w"
    refine loopk_ok G ho.1 (mkbs_ok p) ra ho.2.2 hl hR ho.2.1 hA w fun h' w=>?_
    walk_at "w"
    exact hQ _ w
  | .catch p o j q=>fun y z R lp A k L h Q rs ho hz hA hR hl w hQ=>by
    obtain ⟨x1,x2,rfl,ra,rb⟩:=rs
    obtain ⟨R,rfl⟩:=rK8 hR
    refine enter (b:=kStatement_0) (loc:=[some (.ref a.k),some (.tup [.str 39,.ref x1,optV o,.int j,.ref x2]),none]) G.f47 rfl rfl rfl rfl fun cz hc=>?_
    have mm:=G.ms
    walk_at "w"
    refine catching_ok G (mkbs_ok p) (mkbs_ok q) ra rb ho.2.2.1 ho.2.2.2 hl hR ho.2.1 hA w fun h' w=>?_
    walk_at "w"
    exact hQ _ w
  | .end_ p q=>fun y z R lp A k L h Q rs ho hz hA hR hl w hQ=>by
    obtain ⟨x1,x2,rfl,ra,rb⟩:=rs
    obtain ⟨R,rfl⟩:=rK8 hR
    refine enter (b:=kStatement_0) (loc:=[some (.ref a.k),some (.tup [.str 40,.ref x1,.ref x2]),none]) G.f47 rfl rfl rfl rfl fun cz hc=>?_
    have mm:=G.ms
    walk_at "w"
    refine ending_ok G (mkbs_ok p) (mkbs_ok q) ra rb ho.2.1 ho.2.2 hl hR ho.1 hA w fun h' w=>?_
    walk_at "w"
    exact hQ _ w
theorem mkbs_ok:∀ bl:Bl,allS (MkSp g b h0 c a X) bl
  | .nil=>trivial
  | .cons st bl=>⟨mks_ok st,mkbs_ok bl⟩
end
end
end Mine
end
noncomputable section
namespace Mine
noncomputable def RR.okm (n:Int):RR → Prop
  | .pl i=>0 ≤ i ∧ i < n
  | .r (.go i)=>0 ≤ i ∧ i < n
  | .r (.nought i)=>0 ≤ i ∧ i < n
  | .r _=>True
structure MkOk (k:K):Prop where
  r:∀ x ∈ k.rows,x.okm k.m
  s:∀ x ∈ k.str,0 ≤ x.2.2 ∧ x.2.2 < k.m
  l:k.len < lim
theorem res_at {M:List Int} {i:Int} (h:0 ≤ i ∧ i < (M.length:Int)):seqAt (M.map V.int) i = some (.int (resI M i)):=by
  rw [seqAt_nat h.1,List.getElem?_map]; unfold resI
  rw [List.getD_eq_getElem?_getD,List.getElem?_eq_getElem (by (first | lia | omega))]; rfl
noncomputable def K.code (k:K):List Row:=k.rows.map (RR.res k.marks)
noncomputable def K.strs (k:K):List (Int × Int × Int):=k.str.map (resS k.marks)
section
variable {g:Genv} (G:KG g) {R b:Nat} {h0 h:Hp} {a:KA} {k:K} {A:List Ar} {L:List Cell} {Q:KE} {X:Nat → Hp → Prop}
include G
theorem row_oth {x:Row} (e1:decide (x.wd = 28) = false) (e2:decide (x.wd = 29) = false) (e3:decide (x.wd = 2) = false) (hQ:Q x.v h):callWp g (R + 2) 56 [.ref a.k,x.v] h Q X:=by
  refine enter (b:=kToldRow_0) (loc:=[some (.ref a.k),some x.v]) G.f56 rfl rfl rfl rfl fun cz hc=>?_
  have e0:=Row.tix0 x
  walk_at "w"
  refine b_f e1 ?_
  walk_at "w"
  refine b_f e2 ?_
  walk_at "w"
  refine b_f e3 ?_
  walk_at "w"
  exact hQ
theorem row_told {x:RR} (hx:x.okm k.m) (w:Ow b h0 h (ML a k A L)) (hQ:Q (x.res k.marks).v h):callWp g (R + 2) 56 [.ref a.k,x.v] h Q X:=by
  have ma:=G.ats
  cases x with
  | pl i=>
    have e:=res_at hx
    refine enter (b:=kToldRow_0) (loc:=[some (.ref a.k),some (RR.pl i).v]) G.f56 rfl rfl rfl rfl fun cz hc=>?_
    walk_at "w"
    exact hQ
  | r x=>
    cases x with
    | go i=>
      have e:=res_at hx
      refine enter (b:=kToldRow_0) (loc:=[some (.ref a.k),some (Row.go i).v]) G.f56 rfl rfl rfl rfl fun cz hc=>?_
      walk_at "w"
      exact hQ
    | nought i=>
      have e:=res_at hx
      refine enter (b:=kToldRow_0) (loc:=[some (.ref a.k),some (Row.nought i).v]) G.f56 rfl rfl rfl rfl fun cz hc=>?_
      walk_at "w"
      exact hQ
    | ari o=>cases o <;> exact row_oth G rfl rfl rfl hQ
    | _=>exact row_oth G rfl rfl rfl hQ
theorem fun_ok {bl:Bl} {x c:Nat} (rb:RB (PB b h0) bl x) (ho:bl.ok c 1 false) (hl:(funK bl k).len < lim) (w:Ow b h0 h (ML a k [] L)) (hQ:∀ h',Ow b h0 h' (ML a (funK bl k) [] L) → Q .none h'):callWp g (R + 50) 44 [.ref a.k,.ref x] h Q X:=by
  have ma:=G.ats
  have mm:=G.ms
  refine enter (b:=kFunction_0) (loc:=[some (.ref a.k),some (.ref x)]) G.f44 rfl rfl rfl rfl fun cz hc=>?_
  have b2:=le_emit.lt hl
  have b1:=le_emit.lt b2
  walk_at "w"
  refine t_aO hc w (i := 0) rfl (ma _ _ rfl) rfl fun zz w => ?_; walk_at "w"
  have w:Ow b h0 _ (ML a ⟨k.rows,k.marks,k.str,4,k.most⟩ [] L):=w
  refine mkb_ok G (R:=R + 49) (A:=[]) (mkbs_ok G bl) rb ho (by decide) (by decide) (by unfold rmB; (first | lia | omega)) b1 w fun h' w=>?_
  walk_at "w"
  refine p_emit (.r (.put 0)) w rfl b2 fun h' w=>?_
  walk_at "w"
  refine p_emit (.r .back) w rfl hl fun h' w=>?_
  walk_at "w"
  exact hQ _ w
theorem init_ok {x:Nat} (w:Ow b h0 h ((x,.inst 3 []) :: L)) (hQ:∀ h' a,a.k = x → Ow b h0 h' (ML a .zero [] L) → Q .none h'):callWp g (R + 2) 40 [.ref x] h Q X:=by
  have ma:=G.ats
  refine enter (b:=kInit_0) (loc:=[some (.ref x)]) G.f40 rfl rfl rfl rfl fun cz hc=>?_
  walk_at "w"
  refine l_lstO w fun zz r w=>?_
  walk_at "w"
  refine t_aO hc w (i := 1) rfl (ma _ _ rfl) rfl fun zz w => ?_; walk_at "w"
  refine l_lstO w fun zz m w=>?_
  walk_at "w"
  refine t_aO hc w (i := 2) rfl (ma _ _ rfl) rfl fun zz w => ?_; walk_at "w"
  refine l_lstO w fun zz s w=>?_
  walk_at "w"
  refine t_aO hc w (i := 3) rfl (ma _ _ rfl) rfl fun zz w => ?_; walk_at "w"
  refine l_lstO w fun zz ar w=>?_
  walk_at "w"
  refine t_aO hc w (i := 4) rfl (ma _ _ rfl) rfl fun zz w => ?_; walk_at "w"
  refine t_aO hc w (i := 4) rfl (ma _ _ rfl) rfl fun zz w => ?_; walk_at "w"
  refine t_aO hc w (i := 4) rfl (ma _ _ rfl) rfl fun zz w => ?_; walk_at "w"
  exact hQ _ ⟨x,r,m,s,ar⟩ rfl ((((w.front 1 rfl).front 2 rfl).front 3 rfl).front 4 rfl)
inductive FnI (Pr:Nat → List V → Prop) (c:Nat) (P0:List Bl) (xs:List V) (W:K → List Int → Prop):Prop
  | mk (P:List Bl) (as:List Nat) (k:K) (bg:List Int):xs = as.map V.ref → RP Pr P as → (∀ x ∈ P,x.ok c 1 false) → bg.length + P.length = P0.length → funsK P0 .zero = funsK P k → begsK P0 .zero = bg ++ begsK P k → W k bg → FnI Pr c P0 xs W
omit G in
theorem le_fun (bl:Bl) (k:K):Le k (funK bl k):=(Le.mk (Nat.le_refl _) (Nat.le_refl _):Le k ⟨k.rows,k.marks,k.str,4,k.most⟩).trans ((le_B bl [] _).trans (le_emit.trans le_emit))
omit G in
theorem le_funs:∀ (P:List Bl) (k:K),Le k (funsK P k)
  | [],k=>.refl
  | b :: P,k=>(le_fun b k).trans (le_funs P _)
omit G in
theorem code_fm (k:K):k.rows.flatMap (fun x=>[(x.res k.marks).v]) = k.code.map Row.v:=(fm_map _ _).trans (List.map_map (f:=RR.res k.marks) (g:=Row.v)).symm
omit G in
theorem strs_fm (k:K):k.str.flatMap (fun x=>[strV (resS k.marks x)]) = k.strs.map strV:=(fm_map _ _).trans (List.map_map (f:=resS k.marks) (g:=strV)).symm
omit G in
theorem code_len (hl:k.len < lim):(k.code.map Row.v).length ≤ lim:=by rw [List.length_map]; exact Nat.le_of_lt (Nat.lt_of_le_of_lt (nlt (Nat.le_of_eq (List.length_map ..)) (nlt (Nat.le_add_right _ _) (Nat.le_add_right _ _))) hl)
omit G in
theorem strs_len (hl:k.len < lim):(k.strs.map strV).length ≤ lim:=by rw [List.length_map]; exact Nat.le_of_lt (Nat.lt_of_le_of_lt (nlt (Nat.le_of_eq (List.length_map ..)) (Nat.le_add_left _ _)) hl)
theorem made_ok {pa:Nat} {as:List Nat} {P:List Bl} (C:∀ {r:Nat} {Q:KE},Q .none h → callWp g (r + 44) 28 [.ref pa] h Q X) (hp:PB b h0 pa (as.map V.ref)) (rp:RP (PB b h0) P as) (ho:okP P) (h8:P.length ≤ 9) (hm:MkOk (funsK P .zero)) (w:Ow b h0 h L)
    (hQ:∀ h' r s e,Ow b h0 h' ((r,.list ((funsK P .zero).code.map Row.v)) :: (s,.list ((funsK P .zero).strs.map strV)) :: (e,iL (begsK P .zero)) :: L) → Q (.tup [.ref r,.ref s,.ref e,.int (funsK P .zero).most]) h'):callWp g (R + 60) 57 [.ref pa] h Q X:=by
  have ma:=G.ats
  have mm:=G.ms
  refine enter (b:=cMade_0) (loc:=[some (.ref pa),none,none,none,none,none]) G.f57 rfl rfl rfl rfl fun cz hc=>?_
  walk_at "w"
  refine C (r:=R + 15) ?_
  walk_at "w"
  refine k_new hc G.i3 ?_
  refine init_ok G (w.alloc _) fun h1 a ea w=>⟨rfl,?_⟩
  rw [← ea]
  walk_at "w"
  refine l_lstO w fun h2 e w=>?_
  have w:Ow b h0 h2 (ML a .zero [] ((e,iL []) :: L)):=((((w.front 5 rfl).front 5 rfl).front 5 rfl).front 5 rfl).front 5 rfl
  walk_at "w"
  refine f_seq (w.low hp.1 hp.2) rfl (fun xs l h'=>∃ y,l = [some (.ref pa),some (.ref a.k),some (.ref e),y,none,none] ∧ FnI (PB b h0) P.length P xs fun k bg=>Ow b h0 h' (ML a k [] ((e,iL bg) :: L))) ⟨_,rfl,.mk P as .zero [] rfl rp ho.2 (Nat.zero_add _) rfl rfl w⟩ ?_ ?_
  · rintro l h' ⟨y,rfl,P',as',k,bg,ex,rp,_,_,ev,eb,w⟩
    refine ⟨w.low hp.1 hp.2,?_⟩
    have ex:=List.map_eq_nil_iff.mp ex.symm
    subst ex
    cases P' with
    | cons _ _=>obtain ⟨_,_,e,_⟩:=rp; cases e
    | nil=>
    rw [show begsK [] k = [] from rfl,List.append_nil] at eb
    rw [show funsK [] k = k from rfl] at ev
    subst eb
    rw [ev] at hm hQ
    clear ev
    walk_at "w"
    refine c_each RR.v _ k.rows (w.get 1 rfl) rfl rfl (code_fm k) (code_len hm.l) (fun z hz K hK=>w_nil ?_) w fun h' r w=>?_
    · walk_at "w"
      refine row_told G (R:=R + 57) (hm.r z hz) w ?_
      walk_at "w"
      exact hK
    have w:Ow b h0 h' (ML a k [] ((r,.list (k.code.map Row.v)) :: (e,iL (begsK P .zero)) :: L)):=((((w.front 5 rfl).front 5 rfl).front 5 rfl).front 5 rfl).front 5 rfl
    walk_at "w"
    refine c_each strV _ k.str (w.get 3 rfl) rfl rfl (strs_fm k) (strs_len hm.l) (fun z hz K hK=>w_nil ?_) w fun h' s w=>?_
    · have e0:=res_at (hm.s z hz)
      walk_at "w"
      exact hK
    walk_at "w"
    exact hQ _ r s e ((((((w.drop 1).drop 1).drop 1).drop 1).drop 1).front 1 rfl)
  · rintro x xs l h' K ⟨y,rfl,P',as',k,bg,ex,rp,hk,hn,ev,eb,w⟩ hK
    refine ⟨w.low hp.1 hp.2,_,rfl,?_⟩
    cases P' with
    | nil=>cases rp; cases ex
    | cons bl P'=>
      obtain ⟨x',as',ea,rb,rp⟩:=rp
      subst ea
      cases ex
      rw [List.length_cons] at hn
      walk_at "w"
      rw [List.length_map]
      refine p_appI 5 w rfl (Nat.lt_of_lt_of_le (show bg.length < 10 by (first | lia | omega)) (by decide)) fun h' w=>?_
      have w:Ow b h0 h' (ML a k [] ((e,iL (bg ++ [k.n])) :: L)):=w
      walk_at "w"
      refine fun_ok G (R:=R + 9) rb (hk bl (.head _)) ((le_funs P' _).lt (show (funsK (bl :: P') k).len < lim from ev ▸ hm.l)) w fun h' w=>?_
      walk_at "w"
      exact hK _ _ ⟨_,rfl,P',as',_,_,rfl,rp,fun x hx=>hk x (.tail _ hx),by rw [List.length_append,List.length_singleton]; (first | lia | omega),ev,by rw [eb,List.append_assoc]; rfl,w⟩
end
end Mine
end
noncomputable section
namespace Mine
mutual
noncomputable def Sm.nd:Sm → Nat
  | .if_ _ a b=>a.nd + b.nd + 1
  | .loop _ a=>a.nd + 1
  | .catch a _ _ b=>a.nd + b.nd + 1
  | .end_ a b=>a.nd + b.nd + 1
  | _=>1
noncomputable def Bl.nd:Bl → Nat
  | .nil=>0
  | .cons s b=>s.nd + b.nd
end
mutual
theorem Sm.sz_nd:∀ s:Sm,s.sz ≤ s.nd
  | .set _ _=>Nat.zero_le _
  | .say _=>Nat.le_refl _
  | .give _=>Nat.zero_le _
  | .raise _=>Nat.zero_le _
  | .leave=>Nat.zero_le _
  | .next=>Nat.zero_le _
  | .if_ _ a b=>Nat.le_succ_of_le (Nat.add_le_add (Bl.sz_nd a) (Bl.sz_nd b))
  | .loop _ a=>Nat.le_succ_of_le (Bl.sz_nd a)
  | .catch a _ _ b=>Nat.le_succ_of_le (Nat.add_le_add (Bl.sz_nd a) (Bl.sz_nd b))
  | .end_ a b=>Nat.le_succ_of_le (Nat.add_le_add (Bl.sz_nd a) (Bl.sz_nd b))
theorem Bl.sz_nd:∀ b:Bl,b.sz ≤ b.nd
  | .nil=>Nat.le_refl _
  | .cons s b=>Nat.add_le_add (Sm.sz_nd s) (Bl.sz_nd b)
end
end Mine
end
noncomputable section
namespace Mine
structure Ln (u:Nat) (k k':K):Prop where
  h:k'.len ≤ k.len + u
section
variable {u v:Nat} {k k' k'':K} {x:RR} {i f l b:Int}
theorem Ln.trans (p:Ln u k k') (q:Ln v k' k''):Ln (u + v) k k'':=⟨nlt q.h (nlt (Nat.add_le_add_right p.h v) (Nat.le_of_eq (Nat.add_assoc ..)))⟩
theorem Ln.le (p:Ln u k k') (h:u ≤ v):Ln v k k':=⟨nlt p.h (Nat.add_le_add_left h _)⟩
theorem len_emit:(k.emit x).len = k.len + 1:=by
  show (k.rows ++ [x]).length + k.marks.length + k.str.length = k.rows.length + k.marks.length + k.str.length + 1
  rw [List.length_append,List.length_singleton,Nat.add_right_comm _ 1,Nat.add_right_comm _ 1]
theorem ln_emit:Ln 1 k (k.emit x):=⟨Nat.le_of_eq len_emit⟩
theorem ln_mark:Ln 1 k k.mark:=⟨Nat.le_of_eq (by
  show k.rows.length + (k.marks ++ [0]).length + k.str.length = k.rows.length + k.marks.length + k.str.length + 1
  rw [List.length_append,List.length_singleton,← Nat.add_assoc,Nat.add_right_comm])⟩
theorem ln_stands:Ln 0 k (k.stands i):=⟨Nat.le_of_eq (by unfold K.stands K.len; rw [List.length_set]; rfl)⟩
theorem ln_box:Ln 0 k k.box:=⟨Nat.le_refl _⟩
theorem ln_stre:Ln 1 k (k.stre f i):=⟨Nat.le_of_eq (by
  show k.rows.length + k.marks.length + (k.str ++ [(f,k.n,i)]).length = k.rows.length + k.marks.length + k.str.length + 1
  rw [List.length_append,List.length_singleton]; rfl)⟩
theorem ln_way:Ln 4 k (byWay l b k):=ln_mark.trans (ln_emit.trans (ln_emit.trans (ln_emit.trans ln_stands)))
end
theorem T.ok6 {c e:Nat}:∀ t:T,t.ok c e → e ≤ 6
  | .num _=>fun h=>h
  | .box _=>fun h=>h.1
  | .call _ _=>fun h=>h.1
  | .ari _ _ _=>fun h=>h.1
theorem len_E {c:Nat}:∀ (t:T) (e n:Nat) (k:K),t.ok c e → e + n = 7 → (mkE t k).len + 1 ≤ k.len + 2 ^ n
  | t,e,0,k,h,hn=>absurd (T.ok6 t h) (by rw [show e = 7 from hn]; decide)
  | .num i,e,n + 1,k,h,hn=>by
    rw [mkE,len_emit,Nat.pow_succ]
    exact Nat.add_le_add_left (Nat.mul_le_mul_right 2 Nat.one_le_two_pow) _
  | .box i,e,n + 1,k,h,hn=>by
    rw [mkE,len_emit,Nat.pow_succ]
    exact Nat.add_le_add_left (Nat.mul_le_mul_right 2 Nat.one_le_two_pow) _
  | .call f t,e,n + 1,k,h,hn=>by
    have i:=len_E t (e + 1) n k h.2.2 ((Nat.succ_add_eq_add_succ e n).trans hn)
    rw [mkE,len_emit,Nat.pow_succ,Nat.mul_two,← Nat.add_assoc]
    exact Nat.add_le_add i Nat.one_le_two_pow
  | .ari o a b,e,n + 1,k,h,hn=>by
    have i:=len_E a (e + 1) n k h.2.1 ((Nat.succ_add_eq_add_succ e n).trans hn)
    have j:=len_E b (e + 1) n (mkE a k) h.2.2 ((Nat.succ_add_eq_add_succ e n).trans hn)
    rw [mkE,len_emit,Nat.pow_succ,Nat.mul_two,← Nat.add_assoc]
    exact nlt (Nat.succ_le_succ j) (nlt (Nat.le_of_eq (Nat.add_right_comm _ _ 1)) (Nat.add_le_add_right i _))
theorem ln_E {c:Nat} {t:T} {k:K} (h:t.ok c 1):Ln 63 k (mkE t k):=⟨Nat.le_of_succ_le_succ (len_E t 1 6 k h rfl)⟩
theorem ln_ends:∀ (A:List Ar) (k:K),Ln (4 * A.length) k (endsK A k)
  | []=>fun k=>⟨Nat.le_refl _⟩
  | .lp _ _ :: A=>fun k=>(ln_ends A k).le (Nat.mul_le_mul_left 4 (Nat.le_succ _))
  | .en l b :: A=>fun k=>(ln_way.trans (ln_ends A _)).le (Nat.le_of_eq (Nat.add_comm ..))
theorem ln_leap (nx:Bool):∀ (A:List Ar) (k:K),Ln (4 * A.length) k (leapK nx A k)
  | []=>fun k=>⟨Nat.le_refl _⟩
  | .lp _ _ :: A=>fun k=>ln_emit.le (nlt (by decide:1 ≤ 4 * 1) (Nat.mul_le_mul_left 4 (Nat.succ_pos _)))
  | .en l b :: A=>fun k=>(ln_way.trans (ln_leap nx A _)).le (Nat.le_of_eq (Nat.add_comm ..))
theorem m8 {z:Nat} {A:List Ar} (hz:z ≤ 8) (hA:A.length < z):4 * A.length ≤ 32:=Nat.mul_le_mul_left 4 (Nat.le_of_lt (Nat.lt_of_lt_of_le hA hz))
theorem ln_give {A:List Ar} {k:K} (h:4 * A.length ≤ 32):Ln 40 k (giveK A k):=by
  unfold giveK
  split
  · exact ln_emit.le (by decide)
  · have e:=(ln_ends (A.filter Ar.isE) (k.box.emit (.r (.set k.boxes)))).le (nlt (Nat.mul_le_mul_left 4 (List.length_filter_le Ar.isE A)) h)
    exact Ln.le (ln_box.trans (ln_emit.trans (e.trans (ln_emit.trans ln_emit)))) (by decide)
theorem ln_cat {k:K} {b:Nat} {m:Int}:∀ n:Option Int,Ln 9 k (catK k b m n)
  | none=>Ln.le (u:=1) ln_emit (by decide)
  | some i=>Ln.le (k':=pickK k i b m) (ln_box.trans (ln_emit.trans (ln_emit.trans (ln_emit.trans (ln_emit.trans (ln_emit.trans (ln_emit.trans (ln_emit.trans (ln_stands.trans (ln_emit.trans ln_emit)))))))))) (by decide)
mutual
theorem ln_S {c:Nat}:∀ (s:Sm) (z:Nat) (lp:Bool) (A:List Ar) (k:K),s.ok c z lp → z ≤ 8 → A.length < z → Ln (120 * s.nd) k (mkS s A k)
  | .set b t=>fun z lp A k h hz hA=>Ln.le ((ln_E h.2).trans ln_emit) (by show _ ≤ 120 * 1; decide)
  | .say t=>fun z lp A k h hz hA=>Ln.le ((ln_E h).trans ln_emit) (by show _ ≤ 120 * 1; decide)
  | .give t=>fun z lp A k h hz hA=>Ln.le ((ln_E h).trans (ln_give (m8 hz hA))) (by show _ ≤ 120 * 1; decide)
  | .raise t=>fun z lp A k h hz hA=>Ln.le ((ln_E h).trans ln_emit) (by show _ ≤ 120 * 1; decide)
  | .leave=>fun z lp A k h hz hA=>Ln.le (ln_leap false A k) (nlt (m8 hz hA) (by show _ ≤ 120 * 1; decide))
  | .next=>fun z lp A k h hz hA=>Ln.le (ln_leap true A k) (nlt (m8 hz hA) (by show _ ≤ 120 * 1; decide))
  | .if_ t a b=>fun z lp A k h hz hA=>Ln.le (ln_mark.trans (ln_mark.trans ((ln_E h.1).trans (ln_emit.trans ((ln_B a (z + 1) lp A _ h.2.2.1 h.2.1 (Nat.lt_succ_of_lt hA)).trans (ln_emit.trans (ln_stands.trans ((ln_B b (z + 1) lp A _ h.2.2.2 h.2.1 (Nat.lt_succ_of_lt hA)).trans ln_stands)))))))) (by show _ ≤ 120 * (a.nd + b.nd + 1); (first | lia | omega))
  | .loop t a=>fun z lp A k h hz hA=>Ln.le (ln_mark.trans (ln_mark.trans (ln_stands.trans (ln_emit.trans ((ln_E h.1).trans (ln_emit.trans ((ln_B a (z + 1) true (.lp k.m k.mark.m :: A) _ h.2.2 h.2.1 (Nat.succ_lt_succ hA)).trans (ln_emit.trans ln_stands)))))))) (by show _ ≤ 120 * (a.nd + 1); (first | lia | omega))
  | .catch a n b d=>fun z lp A k h hz hA=>Ln.le (ln_mark.trans (ln_mark.trans (ln_mark.trans ((ln_B a (z + 1) lp A _ h.2.2.1 h.2.1 (Nat.lt_succ_of_lt hA)).trans (ln_stre.trans (ln_emit.trans (ln_stands.trans ((ln_cat n).trans ((ln_B d (z + 1) lp A _ h.2.2.2 h.2.1 (Nat.lt_succ_of_lt hA)).trans ln_stands))))))))) (by show _ ≤ 120 * (a.nd + d.nd + 1); (first | lia | omega))
  | .end_ a b=>fun z lp A k h hz hA=>Ln.le (ln_mark.trans (ln_mark.trans (ln_mark.trans (ln_box.trans (ln_box.trans ((ln_B a (z + 1) lp (.en k.m k.mark.mark.mark.boxes :: A) _ h.2.1 h.1 (Nat.succ_lt_succ hA)).trans (ln_stre.trans (ln_way.trans (ln_emit.trans (ln_stands.trans (ln_emit.trans (ln_way.trans (ln_emit.trans (ln_emit.trans (ln_stands.trans ((ln_B b (z + 1) lp A _ h.2.2 h.1 (Nat.lt_succ_of_lt hA)).trans (ln_emit.trans ln_stands))))))))))))))))) (by show _ ≤ 120 * (a.nd + b.nd + 1); (first | lia | omega))
theorem ln_B {c:Nat}:∀ (s:Bl) (z:Nat) (lp:Bool) (A:List Ar) (k:K),s.ok c z lp → z ≤ 8 → A.length < z → Ln (120 * s.nd) k (mkB s A k)
  | .nil=>fun z lp A k h hz hA=>⟨Nat.le_refl _⟩
  | .cons s b=>fun z lp A k h hz hA=>Ln.le ((ln_S s z lp A k h.1 hz hA).trans (ln_B b z lp A _ h.2 hz hA)) (Nat.le_of_eq (Nat.mul_add ..).symm)
end
theorem ln_funs {c N:Nat}:∀ (P:List Bl) (k:K),(∀ b ∈ P,b.ok c 1 false) → (∀ b ∈ P,b.nd ≤ N) → Ln (P.length * (120 * N + 2)) k (funsK P k)
  | []=>fun k h hn=>⟨Nat.le_add_right _ _⟩
  | b :: P=>fun k h hn=>by
    have j:Ln (120 * N + 2) ⟨k.rows,k.marks,k.str,4,k.most⟩ (funK b k):=Ln.le ((ln_B b 1 false [] ⟨k.rows,k.marks,k.str,4,k.most⟩ (h b (.head _)) (by decide) (by decide)).trans (ln_emit.trans ln_emit)) (Nat.add_le_add_right (Nat.mul_le_mul_left 120 (hn b (.head _))) 2)
    have i:=(Ln.mk (k:=k) j.h).trans (ln_funs P (funK b k) (fun x hx=>h x (.tail _ hx)) (fun x hx=>hn x (.tail _ hx)))
    exact i.le (Nat.le_of_eq ((Nat.add_comm ..).trans (Nat.succ_mul ..).symm))
end Mine
end
noncomputable section
namespace Mine
noncomputable def RR.fit (c m most:Int):RR → Prop
  | .pl i=>0 ≤ i ∧ i < m
  | .r (.go i)=>0 ≤ i ∧ i < m
  | .r (.nought i)=>0 ≤ i ∧ i < m
  | .r (.get i)=>0 ≤ i ∧ i < most
  | .r (.set i)=>0 ≤ i ∧ i < most
  | .r (.on i)=>0 ≤ i ∧ i < most
  | .r (.call i)=>0 ≤ i ∧ i < c
  | .r _=>True
theorem RR.fit_mono {c m most m' most':Int} (hm:m ≤ m') (hb:most ≤ most'):∀ x:RR,x.fit c m most → x.fit c m' most'
  | .pl i=>fun h=>⟨h.1,Int.lt_of_lt_of_le h.2 hm⟩
  | .r x=>fun h=>by cases x <;> first | trivial | exact ⟨h.1,Int.lt_of_lt_of_le h.2 hm⟩ | exact ⟨h.1,Int.lt_of_lt_of_le h.2 hb⟩ | exact h
noncomputable def PairOk (x y:Int × Int × Int):Prop:=x.2.1 ≤ y.1 ∨ (y.1 ≤ x.1 ∧ x.2.1 ≤ y.2.1)
structure StrOk (o:Option Int) (k:K) (x:Int × Int × Int):Prop where
  f:0 ≤ x.1 ∧ x.1 ≤ x.2.1
  b:x.2.1 ≤ k.n
  i:0 ≤ x.2.2 ∧ x.2.2 < k.m
  g:x.2.1 ≤ resI k.marks x.2.2 ∨ o = some x.2.2
structure MInv (c:Int) (o:Option Int) (k:K):Prop where
  ms:∀ x ∈ k.marks,0 ≤ x ∧ x ≤ k.n
  st:∀ x ∈ k.str,StrOk o k x
  pw:k.str.Pairwise PairOk
  rw:∀ x ∈ k.rows,x.fit c k.m k.most
  bx:4 ≤ k.boxes ∧ k.boxes ≤ k.most
structure J (c:Int) (o:Option Int) (k0 k:K):Prop where
  v:MInv c o k
  n:k0.n ≤ k.n
  m:k0.m ≤ k.m
  most:k0.most ≤ k.most
  bx:k0.boxes ≤ k.boxes
  st:∃ new,k.str = k0.str ++ new ∧ ∀ x ∈ new,k0.n ≤ x.1
section
variable {c:Int} {o:Option Int} {k0 k k1:K} {x:RR} {i f l b g:Int}
theorem MInv.j (v:MInv c o k):J c o k k:=⟨v,Int.le_refl _,Int.le_refl _,Int.le_refl _,Int.le_refl _,[],(List.append_nil _).symm,fun x h=>nomatch h⟩
theorem J.trans {o':Option Int} (p:J c o k0 k) (q:J c o' k k1):J c o' k0 k1:=by
  obtain ⟨s1,e1,h1⟩:=p.st
  obtain ⟨s2,e2,h2⟩:=q.st
  refine ⟨q.v,Int.le_trans p.n q.n,Int.le_trans p.m q.m,Int.le_trans p.most q.most,Int.le_trans p.bx q.bx,s1 ++ s2,by rw [e2,e1,List.append_assoc],fun x hx=>?_⟩
  rcases List.mem_append.mp hx with hx | hx
  · exact h1 x hx
  · exact Int.le_trans p.n (h2 x hx)
theorem n_emit:(k.emit x).n = k.n + 1:=by unfold K.emit K.n; rw [List.length_append]; rfl
theorem m_mark:k.mark.m = k.m + 1:=by unfold K.mark K.m; rw [List.length_append]; rfl
theorem m_nn:0 ≤ k.m:=Int.natCast_nonneg _
theorem n_nn:0 ≤ k.n:=Int.natCast_nonneg _
theorem StrOk.mono {x:Int × Int × Int} (h:StrOk o k x) (hn:k.n ≤ k1.n) (hm:k.m ≤ k1.m) (hr:resI k.marks x.2.2 = resI k1.marks x.2.2):StrOk o k1 x:=⟨h.f,Int.le_trans h.b hn,⟨h.i.1,Int.lt_of_lt_of_le h.i.2 hm⟩,hr ▸ h.g⟩
theorem MInv.emit (v:MInv c o k) (h:x.fit c k.m k.most):J c o k (k.emit x):=by
  have hn:k.n ≤ (k.emit x).n:=by rw [n_emit]; exact Int.le_of_lt (Int.lt_succ _)
  refine ⟨⟨fun y hy=>⟨(v.ms y hy).1,Int.le_trans (v.ms y hy).2 hn⟩,fun y hy=>(v.st y hy).mono hn (Int.le_refl _) rfl,v.pw,fun y hy=>?_,v.bx⟩,hn,Int.le_refl _,Int.le_refl _,Int.le_refl _,[],(List.append_nil _).symm,fun x h=>nomatch h⟩
  rcases List.mem_append.mp hy with hy | hy
  · exact v.rw y hy
  · exact List.mem_singleton.mp hy ▸ h
theorem MInv.mark (v:MInv c o k):J c o k k.mark:=by
  have hm:k.m ≤ k.mark.m:=by rw [m_mark]; exact Int.le_of_lt (Int.lt_succ _)
  refine ⟨⟨fun y hy=>?_,fun y hy=>(v.st y hy).mono (Int.le_refl _) hm ?_,v.pw,fun y hy=>RR.fit_mono hm (Int.le_refl _) y (v.rw y hy),v.bx⟩,Int.le_refl _,hm,Int.le_refl _,Int.le_refl _,[],(List.append_nil _).symm,fun x h=>nomatch h⟩
  · rcases List.mem_append.mp hy with hy | hy
    · exact v.ms y hy
    · rw [List.mem_singleton.mp hy]; exact ⟨Int.le_refl _,n_nn⟩
  · have:=(v.st y hy).i
    unfold resI K.mark
    rw [List.getD_eq_getElem?_getD,List.getD_eq_getElem?_getD,List.getElem?_append_left ((Int.toNat_lt this.1).mpr this.2)]
theorem MInv.box (v:MInv c o k):J c o k k.box:=by
  have hm:k.most ≤ k.box.most:=by unfold K.box; dsimp only; split; exact Int.le_of_lt ‹_›; exact Int.le_refl _
  have hb:k.boxes + 1 ≤ k.box.most:=by unfold K.box; dsimp only; split; exact Int.le_refl _; exact Int.not_lt.mp ‹_›
  have h4:=v.bx
  exact ⟨⟨v.ms,fun y hy=>(v.st y hy).mono (Int.le_refl _) (Int.le_refl _) rfl,v.pw,fun y hy=>RR.fit_mono (Int.le_refl _) hm y (v.rw y hy),⟨Int.le_trans h4.1 (Int.le_of_lt (Int.lt_succ _)),hb⟩⟩,Int.le_refl _,Int.le_refl _,hm,Int.le_of_lt (Int.lt_succ _),[],(List.append_nil _).symm,fun x h=>nomatch h⟩
theorem MInv.box0 (v:MInv c o k.box):0 ≤ k.boxes ∧ k.boxes < k.box.most:=by
  have h:=v.bx
  exact ⟨Int.le_trans (by decide) (Int.le_of_lt_add_one (Int.lt_of_lt_of_le (by decide:(3:Int) < 4) h.1)),Int.lt_of_lt_of_le (Int.lt_succ _) h.2⟩
theorem stands_m:(k.stands i).m = k.m:=by unfold K.stands K.m; dsimp only; rw [List.length_set]
theorem MInv.stands' {o':Option Int} (v:MInv c o k) (ho:o' = o ∨ o = some i):J c o' k (k.stands i):=by
  have hm:k.m = (k.stands i).m:=stands_m.symm
  refine ⟨⟨fun y hy=>?_,fun y hy=>?_,v.pw,fun y hy=>RR.fit_mono (Int.le_of_eq hm) (Int.le_refl _) y (v.rw y hy),v.bx⟩,Int.le_refl _,Int.le_of_eq hm,Int.le_refl _,Int.le_refl _,[],(List.append_nil _).symm,fun x h=>nomatch h⟩
  · rcases List.mem_or_eq_of_mem_set hy with hy | hy
    · exact v.ms y hy
    · rw [hy]; exact ⟨n_nn,Int.le_refl _⟩
  · have h:=v.st y hy
    refine ⟨h.f,h.b,hm ▸ h.i,?_⟩
    unfold resI K.stands
    have hi:=h.i
    unfold K.m at hi
    rw [List.getD_eq_getElem?_getD,List.getElem?_set]
    split
    · rename_i q
      rw [if_pos (q ▸ (Int.toNat_lt hi.1).mpr hi.2)]
      exact .inl h.b
    · rename_i q
      rcases h.g with hg | hg
      · unfold resI at hg
        rw [List.getD_eq_getElem?_getD] at hg
        exact .inl hg
      · rcases ho with ho | ho
        · exact .inr (ho.trans hg)
        · exact absurd (by rw [hg] at ho; cases ho; rfl) q
theorem MInv.stands (v:MInv c o k):J c o k (k.stands i):=v.stands' (.inl rfl)
theorem MInv.close (v:MInv c (some i) k):J c none k (k.stands i):=v.stands' (.inr rfl)
theorem MInv.stre (v:MInv c none k) (p:J c none k0 k) (v0:MInv c o k0) (hg:0 ≤ g ∧ g < k.m):J c (some g) k0 (k.stre k0.n g):=by
  obtain ⟨s,e,hs⟩:=p.st
  refine ⟨⟨v.ms,fun y hy=>?_,?_,v.rw,v.bx⟩,p.n,p.m,p.most,p.bx,s ++ [(k0.n,k.n,g)],?_,fun x hx=>?_⟩
  · rcases List.mem_append.mp hy with hy | hy
    · have h:=v.st y hy
      exact ⟨h.f,h.b,h.i,h.g.elim .inl (fun q=>nomatch q)⟩
    · rw [List.mem_singleton.mp hy]
      exact ⟨⟨n_nn,p.n⟩,Int.le_refl _,hg,.inr rfl⟩
  · show (k.str ++ [(k0.n,k.n,g)]).Pairwise PairOk
    refine List.pairwise_append.mpr ⟨v.pw,List.pairwise_singleton _ _,fun x hx y hy=>?_⟩
    rw [List.mem_singleton.mp hy]
    rw [e] at hx
    rcases List.mem_append.mp hx with hx' | hx'
    · exact .inl (v0.st x hx').b
    · exact .inr ⟨hs x hx',(v.st x (e ▸ hx)).b⟩
  · show k.str ++ _ = _
    rw [e,List.append_assoc]
  · rcases List.mem_append.mp hx with hx | hx
    · exact hs x hx
    · rw [List.mem_singleton.mp hx]; exact Int.le_refl _
theorem J.on {o':Option Int} (p:J c o k0 k) (q:MInv c o k → J c o' k k1):J c o' k0 k1:=p.trans (q p.v)
theorem J.mi (p:J c o k.mark k1):0 ≤ k.m ∧ k.m < k1.m:=⟨m_nn,Int.lt_of_lt_of_le (m_mark ▸ Int.lt_succ _) p.m⟩
noncomputable def Ar.fit (m most:Int):Ar → Prop
  | .lp a b=>(0 ≤ a ∧ a < m) ∧ 0 ≤ b ∧ b < m
  | .en l b=>(0 ≤ l ∧ l < m) ∧ 0 ≤ b ∧ b < most
noncomputable def Afit (A:List Ar) (k:K):Prop:=∀ x ∈ A,x.fit k.m k.most
theorem Ar.fit_mono {m most m' most':Int} (hm:m ≤ m') (hb:most ≤ most'):∀ x:Ar,x.fit m most → x.fit m' most'
  | .lp _ _=>fun h=>⟨⟨h.1.1,Int.lt_of_lt_of_le h.1.2 hm⟩,h.2.1,Int.lt_of_lt_of_le h.2.2 hm⟩
  | .en _ _=>fun h=>⟨⟨h.1.1,Int.lt_of_lt_of_le h.1.2 hm⟩,h.2.1,Int.lt_of_lt_of_le h.2.2 hb⟩
theorem J.a (p:J c o k0 k) {A:List Ar} (h:Afit A k0):Afit A k:=fun x hx=>Ar.fit_mono p.m p.most x (h x hx)
theorem MInv.way (v:MInv c o k) (h:(Ar.en l b).fit k.m k.most):J c o k (byWay l b k):=by
  have j1:=v.mark
  have j2:=j1.v.emit (x:=.pl k.m) ⟨m_nn,by rw [m_mark]; exact Int.lt_succ _⟩
  have h2:=Ar.fit_mono (j1.trans j2).m (j1.trans j2).most _ h
  have j3:=j2.v.emit (x:=.r (.set b)) h2.2
  have j4:=j3.v.emit (x:=.r (.go l)) h2.1
  exact (((j1.trans j2).trans j3).trans j4).on fun v=>v.stands
end
theorem b4 {b:Nat} {c:Int} {o:Option Int} {k:K} (hb:b < 4) (v:MInv c o k):(b:Int) < k.most:=Int.lt_of_lt_of_le (Int.ofNat_lt.mpr hb) (Int.le_trans v.bx.1 v.bx.2)
theorem j_E {c:Nat} {o:Option Int}:∀ (t:T) (e:Nat) (k:K),t.ok c e → MInv c o k → J c o k (mkE t k)
  | .num i=>fun e k h v=>v.emit trivial
  | .box i=>fun e k h v=>v.emit ⟨Int.natCast_nonneg _,b4 h.2 v⟩
  | .call f t=>fun e k h v=>(j_E t (e + 1) k h.2.2 v).on fun v=>v.emit ⟨Int.natCast_nonneg _,Int.ofNat_lt.mpr h.2.1⟩
  | .ari w a b=>fun e k h v=>((j_E a (e + 1) k h.2.1 v).on (j_E b (e + 1) _ h.2.2)).on fun v=>v.emit trivial
theorem j_ends {c:Int} {o:Option Int}:∀ (A:List Ar) (k:K),Afit A k → MInv c o k → J c o k (endsK A k)
  | []=>fun k h v=>v.j
  | .lp _ _ :: A=>fun k h v=>j_ends A k (fun x hx=>h x (.tail _ hx)) v
  | .en l b :: A=>fun k h v=>by
    have j:=v.way (h _ (.head _))
    exact j.on (j_ends A _ (j.a fun x hx=>h x (.tail _ hx)))
theorem j_leap {c:Int} {o:Option Int} (nx:Bool):∀ (A:List Ar) (k:K),Afit A k → MInv c o k → J c o k (leapK nx A k)
  | []=>fun k h v=>v.j
  | .lp _ _ :: A=>fun k h v=>v.emit (by cases nx; exact (h _ (.head _)).2; exact (h _ (.head _)).1)
  | .en l b :: A=>fun k h v=>by
    have j:=v.way (h _ (.head _))
    exact j.on (j_leap nx A _ (j.a fun x hx=>h x (.tail _ hx)))
theorem j_give {c:Int} {o:Option Int} {A:List Ar} {k:K} (h:Afit A k) (v:MInv c o k):J c o k (giveK A k):=by
  unfold giveK
  split
  · exact v.emit trivial
  · have j1:=v.box
    have hb':=j1.v.box0
    have j2:=j1.on fun v=>v.emit (x:=.r (.set k.boxes)) hb'
    have j3:=j2.on (j_ends (A.filter Ar.isE) _ (j2.a fun x hx=>h x (List.mem_filter.mp hx).1))
    have hb3:0 ≤ k.boxes ∧ k.boxes < (endsK (A.filter Ar.isE) (k.box.emit (.r (.set k.boxes)))).most:=⟨hb'.1,Int.lt_of_lt_of_le hb'.2 (j_ends (A.filter Ar.isE) _ (j2.a fun x hx=>h x (List.mem_filter.mp hx).1) j2.v).most⟩
    exact (j3.on fun v=>v.emit (x:=.r (.get k.boxes)) hb3).on fun v=>v.emit trivial
theorem j_cat {c:Int} {o:Option Int} {k:K} {b:Nat} {m:Int} (hb:b < 4) (hm:0 ≤ m ∧ m < k.m) (v:MInv c o k):∀ n:Option Int,J c o k (catK k b m n)
  | none=>v.emit ⟨Int.natCast_nonneg _,b4 hb v⟩
  | some i=>by
    have hx:=v.box.v.box0
    refine ((((((((((v.box.on fun v=>v.emit (x:=.r (.set k.boxes)) hx).on fun v=>v.emit (x:=.r (.get k.boxes)) hx).on fun v=>v.emit (x:=.r (.put i)) trivial).on fun v=>v.emit (x:=.r (.ari .sub)) trivial).on fun v=>v.emit (x:=.r (.nought m)) hm).on fun v=>v.emit (x:=.r (.get k.boxes)) hx).on fun v=>v.emit (x:=.r .raise) trivial).on fun v=>v.stands (i:=m)).on fun v=>v.emit (x:=.r (.get k.boxes)) hx).on fun v=>v.emit ⟨Int.natCast_nonneg _,?_⟩)
    exact b4 hb v
theorem Afit.cons {x:Ar} {A:List Ar} {k:K} (h:x.fit k.m k.most) (hA:Afit A k):Afit (x :: A) k:=fun y hy=>by
  cases hy with
  | head=>exact h
  | tail _ hy=>exact hA y hy
mutual
theorem j_S {c:Nat}:∀ (s:Sm) (z:Nat) (lp:Bool) (A:List Ar) (k:K),s.ok c z lp → Afit A k → MInv c none k → J c none k (mkS s A k)
  | .set b t=>fun z lp A k h hA v=>(j_E t 1 k h.2 v).on fun v=>v.emit ⟨Int.natCast_nonneg _,b4 h.1 v⟩
  | .say t=>fun z lp A k h hA v=>(j_E t 1 k h v).on fun v=>v.emit trivial
  | .give t=>fun z lp A k h hA v=>by
    have j:=j_E t 1 k h v
    exact j.on (j_give (j.a hA))
  | .raise t=>fun z lp A k h hA v=>(j_E t 1 k h v).on fun v=>v.emit trivial
  | .leave=>fun z lp A k h hA v=>j_leap false A k hA v
  | .next=>fun z lp A k h hA v=>j_leap true A k hA v
  | .if_ t a b=>fun z lp A k h hA v=>by
    have j1:=v.mark
    have j2:=j1.v.mark
    have j3:=j_E t 1 _ h.1 j2.v
    have j4:=j3.on fun v=>v.emit (x:=.r (.nought k.m)) (j2.trans j3).mi
    have j5:=j4.on (j_B a (z + 1) lp A _ h.2.2.1 ((j1.trans (j2.trans j4)).a hA))
    have j6:=(j5.on fun v=>v.emit (x:=.r (.go k.mark.m)) j5.mi).on fun v=>v.stands (i:=k.m)
    have j7:=j6.on (j_B b (z + 1) lp A _ h.2.2.2 ((j1.trans (j2.trans j6)).a hA))
    exact (j1.trans (j2.trans j7)).on fun v=>v.stands
  | .loop t a=>fun z lp A k h hA v=>by
    have j1:=v.mark
    have j2:=j1.v.mark
    have j3:=(j2.v.stands (i:=k.m)).on fun v=>v.emit (x:=.r .turn) trivial
    have j4:=j3.on (j_E t 1 _ h.1)
    have j5:=j4.on fun v=>v.emit (x:=.r (.nought k.mark.m)) j4.mi
    have j6:=j5.on (j_B a (z + 1) true (.lp k.m k.mark.m :: A) _ h.2.2 (Afit.cons ⟨(j2.trans j5).mi,j5.mi⟩ ((j1.trans (j2.trans j5)).a hA)))
    have j7:=j6.on fun v=>v.emit (x:=.r (.go k.m)) (j2.trans j6).mi
    exact (j1.trans (j2.trans j7)).on fun v=>v.stands
  | .catch a n b d=>fun z lp A k h hA v=>by
    have j1:=v.mark
    have j2:=j1.v.mark
    have j3:=j2.v.mark
    have j4:=j_B a (z + 1) lp A _ h.2.2.1 ((j1.trans (j2.trans j3)).a hA) j3.v
    have j5:=j4.v.stre j4 j3.v (g:=k.m) (j2.trans (j3.trans j4)).mi
    have j6:=(j5.on fun v=>v.emit (x:=.r (.go k.mark.mark.m)) j5.mi).on fun v=>v.close
    have j7:=j6.on fun v=>j_cat (m:=k.mark.m) h.1 (j3.trans j6).mi v n
    have j8:=j7.on (j_B d (z + 1) lp A _ h.2.2.2 ((j1.trans (j2.trans (j3.trans j7))).a hA))
    exact (j1.trans (j2.trans (j3.trans j8))).on fun v=>v.stands
  | .end_ a b=>fun z lp A k h hA v=>by
    have j1:=v.mark
    have j2:=j1.v.mark
    have j3:=j2.v.mark
    have j4:=j3.v.box
    have j5:=j4.v.box
    have x0:=j4.v.box0
    have x1:0 ≤ k.mark.mark.mark.boxes ∧ k.mark.mark.mark.boxes < k.mark.mark.mark.box.box.most:=⟨x0.1,Int.lt_of_lt_of_le x0.2 j5.most⟩
    have x2:=j5.v.box0
    have up:∀ {o:Option Int} {k':K} {i:Int},J c o k.mark.mark.mark.box.box k' → (0 ≤ i ∧ i < k.mark.mark.mark.box.box.most) → 0 ≤ i ∧ i < k'.most:=fun j q=>⟨q.1,Int.lt_of_lt_of_le q.2 j.most⟩
    have j45:=j4.trans j5
    have j35:=j3.trans j45
    have j25:=j2.trans j35
    have j6:=j_B a (z + 1) lp (.en k.m k.mark.mark.mark.boxes :: A) _ h.2.1 (Afit.cons ⟨j25.mi,x1⟩ ((j1.trans j25).a hA)) j5.v
    have j7:=j6.v.stre j6 j5.v (g:=k.mark.m) (j35.trans j6).mi
    have j8:=j7.on fun v=>v.way (l:=k.m) (b:=k.mark.mark.mark.boxes) ⟨(j25.trans j7).mi,up j7 x1⟩
    have j9:=(j8.on fun v=>v.emit (x:=.r (.go k.mark.mark.m)) (j45.trans j8).mi).on fun v=>v.close
    have j10:=j9.on fun v=>v.emit (x:=.r (.set k.mark.mark.mark.box.boxes)) (up j9 x2)
    have j11:=j10.on fun v=>v.way (l:=k.m) (b:=k.mark.mark.mark.boxes) ⟨(j25.trans j10).mi,up j10 x1⟩
    have j12:=((j11.on fun v=>v.emit (x:=.r (.get k.mark.mark.mark.box.boxes)) (up j11 x2)).on fun v=>v.emit (x:=.r .raise) trivial).on fun v=>v.stands (i:=k.m)
    have j13:=j12.on (j_B b (z + 1) lp A _ h.2.2 ((j1.trans (j25.trans j12)).a hA))
    have j14:=j13.on fun v=>v.emit (x:=.r (.on k.mark.mark.mark.boxes)) (up j13 x1)
    exact (j1.trans (j25.trans j14)).on fun v=>v.stands
theorem j_B {c:Nat}:∀ (s:Bl) (z:Nat) (lp:Bool) (A:List Ar) (k:K),s.ok c z lp → Afit A k → MInv c none k → J c none k (mkB s A k)
  | .nil=>fun z lp A k h hA v=>v.j
  | .cons s b=>fun z lp A k h hA v=>by
    have j:=j_S s z lp A k h.1 hA v
    exact j.on (j_B b z lp A _ h.2 (j.a hA))
end
structure MEnd (c:Int) (k:K):Prop where
  v:MInv c none k
  e:∀ x ∈ k.marks,x + 2 ≤ k.n
  s:∀ x ∈ k.str,x.2.1 + 2 ≤ k.n
theorem j_fun {c:Nat} {b:Bl} {k:K} (h:b.ok c 1 false) (v:MInv c none k):MEnd c (funK b k) ∧ k.n + 2 ≤ (funK b k).n:=by
  have v0:MInv c none ⟨k.rows,k.marks,k.str,4,k.most⟩:=⟨v.ms,fun x hx=>⟨(v.st x hx).f,(v.st x hx).b,(v.st x hx).i,(v.st x hx).g⟩,v.pw,v.rw,by have:=v.bx; exact ⟨by show (4:Int) ≤ 4; (first | lia | omega),by show 4 ≤ k.most; (first | lia | omega)⟩⟩
  have j1:=j_B b 1 false [] _ h (fun x hx=>nomatch hx) v0
  have j2:=(j1.v.emit (x:=.r (.put 0)) trivial).on fun v=>v.emit (x:=.r .back) trivial
  have e:(funK b k).n = (mkB b [] ⟨k.rows,k.marks,k.str,4,k.most⟩).n + 1 + 1:=by unfold funK; rw [n_emit,n_emit]
  refine ⟨⟨j2.v,fun x hx=>?_,fun x hx=>?_⟩,?_⟩
  · have:=(j1.v.ms x hx).2; (first | lia | omega)
  · have:=(j1.v.st x hx).b; (first | lia | omega)
  · have:=j1.n
    have e2:K.n ⟨k.rows,k.marks,k.str,4,k.most⟩ = k.n:=rfl
    (first | lia | omega)
theorem j_funs {c:Nat}:∀ (P:List Bl) (k:K),(∀ b ∈ P,b.ok c 1 false) → MEnd c k → MEnd c (funsK P k) ∧ k.n ≤ (funsK P k).n ∧ (begsK P k).length = P.length ∧ ∀ x ∈ begsK P k,0 ≤ x ∧ x < (funsK P k).n
  | []=>fun k h v=>⟨v,Int.le_refl _,rfl,fun x hx=>nomatch hx⟩
  | b :: P=>fun k h v=>by
    have i:=j_fun (h b (.head _)) v.v
    have j:=j_funs P _ (fun x hx=>h x (.tail _ hx)) i.1
    refine ⟨j.1,by have:=j.2.1; have:=i.2; show _ ≤ (funsK P (funK b k)).n; (first | lia | omega),congrArg Nat.succ j.2.2.1,fun x hx=>?_⟩
    cases hx with
    | head=>exact ⟨n_nn,by have:=j.2.1; have:=i.2; show _ < (funsK P (funK b k)).n; (first | lia | omega)⟩
    | tail _ hx=>exact j.2.2.2 x hx
theorem j_zero {c:Int}:MEnd c .zero:=⟨⟨(fun x hx=>nomatch hx),(fun x hx=>nomatch hx),.nil,(fun x hx=>nomatch hx),by decide,by decide⟩,(fun x hx=>nomatch hx),(fun x hx=>nomatch hx)⟩
theorem RR.fit_m {c m most:Int}:∀ x:RR,x.fit c m most → x.okm m
  | .pl i=>fun h=>h
  | .r x=>fun h=>by cases x <;> first | trivial | exact h
theorem mk_ok {P:List Bl} {N:Nat} (h:∀ b ∈ P,b.ok P.length 1 false) (hn:∀ b ∈ P,b.nd ≤ N) (h8:P.length ≤ 9) (hN:N ≤ 10000):MkOk (funsK P .zero):=by
  have j:=(j_funs P .zero h j_zero).1.v
  refine ⟨fun x hx=>RR.fit_m x (j.rw x hx),fun x hx=>(j.st x hx).i,?_⟩
  have l:=(ln_funs P .zero h hn).h
  exact Nat.lt_of_le_of_lt l (Nat.lt_of_le_of_lt (Nat.add_le_add_left (Nat.mul_le_mul h8 (Nat.add_le_add_right (Nat.mul_le_mul_left 120 hN) 2)) _) (by decide))
end Mine
end
noncomputable section
namespace Mine
noncomputable def optD:Option Int → D
  | none=>.none
  | some i=>.int i
section
variable {h:Hp} {n:Nat}
theorem rd_t {xs:List V} {ds:List D} (e:mapO (rd n h) xs = some ds):rd (n + 1) h (.tup xs) = some (.tup ds):=by
  show (mapO (rd n h) xs).map D.tup = _
  rw [e]; rfl
theorem mo_c {x:V} {xs:List V} {d:D} {ds:List D} (e:rd n h x = some d) (f:mapO (rd n h) xs = some ds):mapO (rd n h) (x :: xs) = some (d :: ds):=by
  rw [mapO,e,f]
theorem mo_n:mapO (rd n h) [] = some []:=rfl
theorem g8 {u:Nat}:8 ≤ 2 * u + 8 + 1:=Nat.le_succ_of_le (Nat.le_add_left 8 _)
theorem rd_o (i:Option Int):rd (n + 1) h (optV i) = some (optD i):=by cases i <;> rfl
end
end Mine
end
noncomputable section
namespace Mine
inductive TZ where
  | num (i:Int)
  | box (k:Int)
  | call (f:Int) (t:TZ)
  | ari (w:Ari) (a b:TZ)
noncomputable def TZ.v:TZ → V
  | .num i=>.tup [.str 35,.int i]
  | .box k=>.tup [.str 36,.int k]
  | .call f t=>.tup [.str 14,.int f,t.v]
  | .ari w a b=>.tup [.str w.w,a.v,b.v]
mutual
inductive SZ where
  | set (k:Int) (t:TZ)
  | say (t:TZ)
  | give (t:TZ)
  | raise (t:TZ)
  | if_ (t:TZ) (a b:BZ)
  | loop (t:TZ) (a:BZ)
  | catch (a:BZ) (n:Option Int) (k:Int) (b:BZ)
  | end_ (a b:BZ)
  | leave
  | next
inductive BZ where
  | nil
  | cons (s:SZ) (b:BZ)
end
noncomputable def BZ.app:BZ → BZ → BZ
  | .nil,b=>b
  | .cons s a,b=>.cons s (a.app b)
mutual
noncomputable def ZS (P:Nat → List V → Prop):SZ → V → Prop
  | .set k t,v=>v = .tup [.str 22,.int k,t.v]
  | .say t,v=>v = .tup [.str 23,t.v]
  | .give t,v=>v = .tup [.str 43,t.v]
  | .raise t,v=>v = .tup [.str 31,t.v]
  | .if_ t a b,v=>∃ x y,v = .tup [.str 37,t.v,.ref x,.ref y] ∧ (∃ vs,P x vs ∧ ZL P a vs) ∧ (∃ vs,P y vs ∧ ZL P b vs)
  | .loop t a,v=>∃ x,v = .tup [.str 38,t.v,.ref x] ∧ (∃ vs,P x vs ∧ ZL P a vs)
  | .catch a n k b,v=>∃ x y,v = .tup [.str 39,.ref x,optV n,.int k,.ref y] ∧ (∃ vs,P x vs ∧ ZL P a vs) ∧ (∃ vs,P y vs ∧ ZL P b vs)
  | .end_ a b,v=>∃ x y,v = .tup [.str 40,.ref x,.ref y] ∧ (∃ vs,P x vs ∧ ZL P a vs) ∧ (∃ vs,P y vs ∧ ZL P b vs)
  | .leave,v=>v = .tup [.str 41]
  | .next,v=>v = .tup [.str 42]
noncomputable def ZL (P:Nat → List V → Prop):BZ → List V → Prop
  | .nil,vs=>vs = []
  | .cons s b,vs=>∃ v ws,vs = v :: ws ∧ ZS P s v ∧ ZL P b ws
end
noncomputable def ZB (P:Nat → List V → Prop) (b:BZ) (x:Nat):Prop:=∃ vs,P x vs ∧ ZL P b vs
noncomputable def ZP (P:Nat → List V → Prop):List BZ → List Nat → Prop
  | [],as=>as = []
  | b :: bs,as=>∃ a as',as = a :: as' ∧ ZB P b a ∧ ZP P bs as'
mutual
theorem ZS.mono {P P':Nat → List V → Prop} (h:∀ a vs,P a vs → P' a vs):∀ (s:SZ) (v:V),ZS P s v → ZS P' s v
  | .set _ _=>fun zz r=>r
  | .say _=>fun zz r=>r
  | .give _=>fun zz r=>r
  | .raise _=>fun zz r=>r
  | .if_ _ a b=>fun zz r=>by
    obtain ⟨x,y,e,⟨vs,p,r⟩,⟨ws,q,t⟩⟩:=r
    exact ⟨x,y,e,⟨vs,h _ _ p,ZL.mono h a _ r⟩,⟨ws,h _ _ q,ZL.mono h b _ t⟩⟩
  | .loop _ a=>fun zz r=>by
    obtain ⟨x,e,⟨vs,p,r⟩⟩:=r
    exact ⟨x,e,⟨vs,h _ _ p,ZL.mono h a _ r⟩⟩
  | .catch a _ _ b=>fun zz r=>by
    obtain ⟨x,y,e,⟨vs,p,r⟩,⟨ws,q,t⟩⟩:=r
    exact ⟨x,y,e,⟨vs,h _ _ p,ZL.mono h a _ r⟩,⟨ws,h _ _ q,ZL.mono h b _ t⟩⟩
  | .end_ a b=>fun zz r=>by
    obtain ⟨x,y,e,⟨vs,p,r⟩,⟨ws,q,t⟩⟩:=r
    exact ⟨x,y,e,⟨vs,h _ _ p,ZL.mono h a _ r⟩,⟨ws,h _ _ q,ZL.mono h b _ t⟩⟩
  | .leave=>fun zz r=>r
  | .next=>fun zz r=>r
theorem ZL.mono {P P':Nat → List V → Prop} (h:∀ a vs,P a vs → P' a vs):∀ (b:BZ) (vs:List V),ZL P b vs → ZL P' b vs
  | .nil=>fun zz r=>r
  | .cons s b=>fun zz r=>by
    obtain ⟨v,ws,e,r,t⟩:=r
    exact ⟨v,ws,e,ZS.mono h s _ r,ZL.mono h b _ t⟩
end
theorem ZP.mono {P P':Nat → List V → Prop} (h:∀ a vs,P a vs → P' a vs):∀ (bs:List BZ) (as:List Nat),ZP P bs as → ZP P' bs as
  | []=>fun zz r=>r
  | b :: bs=>fun zz r=>by
    obtain ⟨a,as,e,⟨vs,p,q⟩,t⟩:=r
    exact ⟨a,as,e,⟨vs,h _ _ p,ZL.mono h b _ q⟩,ZP.mono h bs as t⟩
theorem ZL.app {P:Nat → List V → Prop} {b:BZ} {ys:List V} (q:ZL P b ys):∀ (a:BZ) (xs:List V),ZL P a xs → ZL P (a.app b) (xs ++ ys)
  | .nil=>fun zz r=>by cases r; exact q
  | .cons s a=>fun zz r=>by
    obtain ⟨v,ws,e,r,t⟩:=r
    subst e
    exact ⟨v,_,rfl,r,ZL.app q a ws t⟩
theorem ZL.one {P:Nat → List V → Prop} {s:SZ} {v:V} (r:ZS P s v):ZL P (.cons s .nil) [v]:=⟨v,[],rfl,r,rfl⟩
noncomputable def orE (a b:Option Nat):Option Nat:=match a with
  | some w=>some w
  | none=>b
noncomputable def boxE (k:Int):Option Nat:=if 0 ≤ k ∧ k < 4 then none else some 69
section
variable (c:Nat)
noncomputable def chkT:TZ → Nat → Option Nat
  | .num _,d=>if 6 < d then some 72 else none
  | .box k,d=>if 6 < d then some 72 else boxE k
  | .call f t,d=>if 6 < d then some 72 else if 0 ≤ f ∧ f < c then chkT t (d + 1) else some 70
  | .ari _ a b,d=>if 6 < d then some 72 else orE (chkT a (d + 1)) (chkT b (d + 1))
mutual
noncomputable def chkS:SZ → Nat → Bool → Option Nat
  | .set k t,_,_=>orE (boxE k) (chkT c t 1)
  | .say t,_,_=>chkT c t 1
  | .give t,_,_=>chkT c t 1
  | .raise t,_,_=>chkT c t 1
  | .if_ t a b,d,l=>orE (chkT c t 1) (orE (if 8 < d + 1 then some 72 else chkL a (d + 1) l) (if 8 < d + 1 then some 72 else chkL b (d + 1) l))
  | .loop t a,d,_=>orE (chkT c t 1) (if 8 < d + 1 then some 72 else chkL a (d + 1) true)
  | .catch a _ k b,d,l=>orE (if 8 < d + 1 then some 72 else chkL a (d + 1) l) (orE (boxE k) (if 8 < d + 1 then some 72 else chkL b (d + 1) l))
  | .end_ a b,d,l=>orE (if 8 < d + 1 then some 72 else chkL a (d + 1) l) (if 8 < d + 1 then some 72 else chkL b (d + 1) l)
  | .leave,_,l=>if l then none else some 71
  | .next,_,l=>if l then none else some 71
noncomputable def chkL:BZ → Nat → Bool → Option Nat
  | .nil,_,_=>none
  | .cons s b,d,l=>orE (chkS s d l) (chkL b d l)
end
noncomputable def chkB (b:BZ) (d:Nat) (l:Bool):Option Nat:=if 8 < d then some 72 else chkL c b d l
noncomputable def chkBs:List BZ → Option Nat
  | []=>none
  | b :: bs=>orE (chkB c b 1 false) (chkBs bs)
end
noncomputable def chkP (bs:List BZ):Option Nat:=if bs.length = 0 then some 70 else chkBs bs.length bs
theorem or_none {a b:Option Nat} (h:orE a b = none):a = none ∧ b = none:=by
  cases a with
  | none=>exact ⟨rfl,h⟩
  | some w=>cases h
theorem if_none {α:Type} {p:Prop} [Decidable p] {a:α} {b:Option α} (h:(if p then some a else b) = none):¬ p ∧ b = none:=by
  by_cases q:p
  · rw [if_pos q] at h; cases h
  · rw [if_neg q] at h; exact ⟨q,h⟩
theorem if_none' {α:Type} {p:Prop} [Decidable p] {a:α} {b:Option α} (h:(if p then b else some a) = none):p ∧ b = none:=by
  by_cases q:p
  · rw [if_pos q] at h; exact ⟨q,h⟩
  · rw [if_neg q] at h; cases h
noncomputable def toT:TZ → T
  | .num i=>.num i
  | .box k=>.box k.toNat
  | .call f t=>.call f.toNat (toT t)
  | .ari w a b=>.ari w (toT a) (toT b)
mutual
noncomputable def toS:SZ → Sm
  | .set k t=>.set k.toNat (toT t)
  | .say t=>.say (toT t)
  | .give t=>.give (toT t)
  | .raise t=>.raise (toT t)
  | .if_ t a b=>.if_ (toT t) (toB a) (toB b)
  | .loop t a=>.loop (toT t) (toB a)
  | .catch a n k b=>.catch (toB a) n k.toNat (toB b)
  | .end_ a b=>.end_ (toB a) (toB b)
  | .leave=>.leave
  | .next=>.next
noncomputable def toB:BZ → Bl
  | .nil=>.nil
  | .cons s b=>.cons (toS s) (toB b)
end
section
variable {c:Nat}
theorem tn {k:Int} (h:0 ≤ k):((k.toNat:Nat):Int) = k:=Int.toNat_of_nonneg h
theorem tnl {k:Int} {n:Nat} (h:0 ≤ k) (q:k < n):k.toNat < n:=(Int.toNat_lt h).mpr q
theorem boxZ_ok {k:Int} (h:boxE k = none):((k.toNat:Nat):Int) = k ∧ k.toNat < 4:=by
  obtain ⟨⟨q1,q2⟩,_⟩:=if_none' h
  exact ⟨tn q1,tnl q1 q2⟩
theorem toT_ok:∀ (t:TZ) (d:Nat),chkT c t d = none → (toT t).v = t.v ∧ (toT t).ok c d
  | .num i,d,h=>⟨rfl,Nat.not_lt.mp (if_none h).1⟩
  | .box k,d,h=>by
    obtain ⟨h1,h2⟩:=if_none h
    obtain ⟨e,q⟩:=boxZ_ok h2
    exact ⟨by show V.tup [.str 36,.int (k.toNat:Nat)] = _; rw [e]; rfl,Nat.not_lt.mp h1,q⟩
  | .call f t,d,h=>by
    obtain ⟨h1,h2⟩:=if_none h
    obtain ⟨⟨q1,q2⟩,h3⟩:=if_none' h2
    obtain ⟨e,o⟩:=toT_ok t (d + 1) h3
    exact ⟨by show V.tup [.str 14,.int (f.toNat:Nat),(toT t).v] = _; rw [tn q1,e]; rfl,Nat.not_lt.mp h1,tnl q1 q2,o⟩
  | .ari w a b,d,h=>by
    obtain ⟨h1,h2⟩:=if_none h
    obtain ⟨h3,h4⟩:=or_none h2
    obtain ⟨e1,o1⟩:=toT_ok a (d + 1) h3
    obtain ⟨e2,o2⟩:=toT_ok b (d + 1) h4
    exact ⟨by show V.tup [.str w.w,(toT a).v,(toT b).v] = _; rw [e1,e2]; rfl,Nat.not_lt.mp h1,o1,o2⟩
theorem lt8 {d:Nat} (h:¬ 8 < d + 1):d < 8:=Nat.not_lt.mp h
variable {P:Nat → List V → Prop}
mutual
theorem toS_ok:∀ (s:SZ) (d:Nat) (l:Bool),chkS c s d l = none → (toS s).ok c d l ∧ ∀ v,ZS P s v → RS P (toS s) v
  | .set k t,d,l,h=>by
    obtain ⟨h1,h2⟩:=or_none h
    obtain ⟨e,q⟩:=boxZ_ok h1
    obtain ⟨e2,o⟩:=toT_ok t 1 h2
    exact ⟨⟨q,o⟩,fun v r=>by cases r; show _ = V.tup [.str 22,.int (k.toNat:Nat),(toT t).v]; rw [e,e2]⟩
  | .say t,d,l,h=>⟨(toT_ok t 1 h).2,fun v r=>by cases r; show _ = V.tup [.str 23,(toT t).v]; rw [(toT_ok t 1 h).1]⟩
  | .give t,d,l,h=>⟨(toT_ok t 1 h).2,fun v r=>by cases r; show _ = V.tup [.str 43,(toT t).v]; rw [(toT_ok t 1 h).1]⟩
  | .raise t,d,l,h=>⟨(toT_ok t 1 h).2,fun v r=>by cases r; show _ = V.tup [.str 31,(toT t).v]; rw [(toT_ok t 1 h).1]⟩
  | .if_ t a b,d,l,h=>by
    obtain ⟨h1,h2⟩:=or_none h
    obtain ⟨h3,h4⟩:=or_none h2
    obtain ⟨k1,h3⟩:=if_none h3
    obtain ⟨_,h4⟩:=if_none h4
    obtain ⟨e,o⟩:=toT_ok t 1 h1
    obtain ⟨o1,r1⟩:=toB_ok a (d + 1) l h3
    obtain ⟨o2,r2⟩:=toB_ok b (d + 1) l h4
    exact ⟨⟨o,lt8 k1,o1,o2⟩,fun v ⟨x,y,ev,⟨vs,p,q⟩,⟨ws,p',q'⟩⟩=>⟨x,y,by rw [ev,e],⟨vs,p,r1 _ q⟩,⟨ws,p',r2 _ q'⟩⟩⟩
  | .loop t a,d,l,h=>by
    obtain ⟨h1,h2⟩:=or_none h
    obtain ⟨k1,h3⟩:=if_none h2
    obtain ⟨e,o⟩:=toT_ok t 1 h1
    obtain ⟨o1,r1⟩:=toB_ok a (d + 1) true h3
    exact ⟨⟨o,lt8 k1,o1⟩,fun v ⟨x,ev,⟨vs,p,q⟩⟩=>⟨x,by rw [ev,e],⟨vs,p,r1 _ q⟩⟩⟩
  | .catch a n k b,d,l,h=>by
    obtain ⟨h1,h2⟩:=or_none h
    obtain ⟨h3,h4⟩:=or_none h2
    obtain ⟨k1,h1⟩:=if_none h1
    obtain ⟨_,h4⟩:=if_none h4
    obtain ⟨e,q⟩:=boxZ_ok h3
    obtain ⟨o1,r1⟩:=toB_ok a (d + 1) l h1
    obtain ⟨o2,r2⟩:=toB_ok b (d + 1) l h4
    exact ⟨⟨q,lt8 k1,o1,o2⟩,fun v ⟨x,y,ev,⟨vs,p,q⟩,⟨ws,p',q'⟩⟩=>⟨x,y,by rw [ev,e],⟨vs,p,r1 _ q⟩,⟨ws,p',r2 _ q'⟩⟩⟩
  | .end_ a b,d,l,h=>by
    obtain ⟨h1,h4⟩:=or_none h
    obtain ⟨k1,h1⟩:=if_none h1
    obtain ⟨_,h4⟩:=if_none h4
    obtain ⟨o1,r1⟩:=toB_ok a (d + 1) l h1
    obtain ⟨o2,r2⟩:=toB_ok b (d + 1) l h4
    exact ⟨⟨lt8 k1,o1,o2⟩,fun v ⟨x,y,ev,⟨vs,p,q⟩,⟨ws,p',q'⟩⟩=>⟨x,y,ev,⟨vs,p,r1 _ q⟩,⟨ws,p',r2 _ q'⟩⟩⟩
  | .leave,d,l,h=>by
    cases l with
    | true=>exact ⟨rfl,fun v r=>r⟩
    | false=>cases h
  | .next,d,l,h=>by
    cases l with
    | true=>exact ⟨rfl,fun v r=>r⟩
    | false=>cases h
theorem toB_ok:∀ (b:BZ) (d:Nat) (l:Bool),chkL c b d l = none → (toB b).ok c d l ∧ ∀ vs,ZL P b vs → RL P (toB b) vs
  | .nil,d,l,h=>⟨trivial,fun vs r=>r⟩
  | .cons s b,d,l,h=>by
    obtain ⟨h1,h2⟩:=or_none h
    obtain ⟨o1,r1⟩:=toS_ok s d l h1
    obtain ⟨o2,r2⟩:=toB_ok b d l h2
    exact ⟨⟨o1,o2⟩,fun vs ⟨v,ws,e,q,q'⟩=>⟨v,ws,e,r1 _ q,r2 _ q'⟩⟩
end
theorem toP_ok:∀ (bs:List BZ),chkBs c bs = none → (∀ b ∈ bs.map toB,b.ok c 1 false) ∧ ∀ as,ZP P bs as → RP P (bs.map toB) as
  | [],h=>⟨fun b hb=>(nomatch hb),fun as r=>r⟩
  | b :: bs,h=>by
    obtain ⟨h1,h2⟩:=or_none h
    obtain ⟨o1,r1⟩:=toB_ok (P:=P) b 1 false (if_none h1).2
    obtain ⟨o2,r2⟩:=toP_ok bs h2
    refine ⟨fun b' hb=>?_,fun as ⟨a,as',e,⟨vs,p,q⟩,q'⟩=>⟨a,as',e,⟨vs,p,r1 _ q⟩,r2 _ q'⟩⟩
    rcases List.mem_cons.mp hb with rfl | hb
    · exact o1
    · exact o2 b' hb
end
end Mine
end
noncomputable section
namespace Mine
noncomputable def Mx (o:Option Nat) (Q:KE) (X:Nat → Hp → Prop) (h:Hp):Prop:=match o with
  | none=>Q .none h
  | some w=>X w h
section
variable {a b:Option Nat} {Q Q':KE} {X:Nat → Hp → Prop} {h:Hp}
theorem mx_then (m:Mx (orE a b) Q X h) (k:Mx b Q X h → Q' .none h):Mx a Q' X h:=by
  cases a with
  | none=>exact k m
  | some w=>exact m
theorem mx_q (m:Mx a Q X h) (k:Q .none h → Q' .none h):Mx a Q' X h:=by
  cases a with
  | none=>exact k m
  | some w=>exact m
theorem mx_t {p:Prop} [Decidable p] {w:Nat} (q:p) (m:Mx (if p then some w else b) Q X h):X w h:=by rw [if_pos q] at m; exact m
theorem mx_f {p:Prop} [Decidable p] {w:Nat} (q:¬ p) (m:Mx (if p then some w else b) Q X h):Mx b Q X h:=by rw [if_neg q] at m; exact m
theorem mx_t' {p:Prop} [Decidable p] {w:Nat} (q:p) (m:Mx (if p then b else some w) Q X h):Mx b Q X h:=by rw [if_pos q] at m; exact m
theorem mx_f' {p:Prop} [Decidable p] {w:Nat} (q:¬ p) (m:Mx (if p then b else some w) Q X h):X w h:=by rw [if_neg q] at m; exact m
end
noncomputable def allZ (p:SZ → Prop):BZ → Prop
  | .nil=>True
  | .cons s b=>p s ∧ allZ p b
section
variable {g:Genv} (G:CG g) {h:Hp} {c:Nat} {X:Nat → Hp → Prop}
include G
theorem within_z {r m:Nat} {k:Int} {Q:KE} (hQ:Q (.bool (decide (0 ≤ k ∧ k < m))) h):callWp g (r + 2) 23 [.int k,.int m] h Q X:=by
  refine enter (b:=cWithin_0) (loc:=[some (.int k),some (.int m)]) G.f23 rfl rfl rfl rfl fun cz hz=>?_
  walk_at "w"
  refine b_d (fun q=>?_) (fun q=>?_)
  · walk_at "w"
    rw [show decide (0 ≤ k ∧ k < m) = decide (k < (m:Int)) by by_cases z:k < (m:Int) <;> simp [q,z]] at hQ
    exact hQ
  · rw [decide_eq_false fun z=>q z.1] at hQ
    walk_at "w"
    exact hQ
theorem need_z {r:Nat} {k:Int} {Q:KE} (M:Mx (boxE k) Q X h):callWp g (r + 3) 24 [.int k] h Q X:=by
  refine enter (b:=cNeedBox_0) (loc:=[some (.int k)]) G.f24 rfl rfl rfl rfl fun cz hz=>?_
  walk_at "w"
  refine within_z G (m:=4) ?_
  walk_at "w"
  by_cases q:0 ≤ k ∧ k < ((4:Nat):Int)
  · refine b_f (by rw [decide_eq_true q]; rfl) ?_
    walk_at "w"
    exact mx_t' q M
  · refine b_t (by rw [decide_eq_false q]; rfl) ?_
    walk_at "w"
    subst hz
    exact mx_f' q M
omit G in
theorem u8 {d u:Nat} (h:8 ≤ u + d) (q:¬ 6 < d):∃ v,u = v + 1 ∧ 8 ≤ v + (d + 1):=by
  obtain ⟨v,rfl⟩:=u1 (m:=7) h (Nat.le_succ_of_le (Nat.not_lt.mp q))
  exact ⟨v,rfl,nlt h (Nat.le_of_eq (Nat.succ_add_eq_add_succ _ _))⟩
omit G in
theorem u10 {d u:Nat} (h:10 ≤ u + d) (q:d ≤ 8):∃ v,u = v + 1 ∧ 10 ≤ v + (d + 1):=by
  obtain ⟨v,rfl⟩:=u1 (m:=9) h (Nat.le_succ_of_le q)
  exact ⟨v,rfl,nlt h (Nat.le_of_eq (Nat.succ_add_eq_add_succ _ _))⟩
omit G in
theorem i6 {d:Nat}:((6:Int) < d) ↔ 6 < d:=Int.ofNat_lt (m:=d) (n:=6)
omit G in
theorem i8 {d:Nat}:((8:Int) < d) ↔ 8 < d:=Int.ofNat_lt (m:=d) (n:=8)
theorem lookE_z:∀ (t:TZ) (d u r:Nat) (Q:KE),8 ≤ u + d → Mx (chkT c t d) Q X h → callWp g (r + u + 4) 25 [t.v,.int c,.int d] h Q X
  | .num i=>fun d u r Q hu M=>by
    refine enter (b:=cLookExpression_0) (loc:=[some (TZ.num i).v,some (.int c),some (.int d)]) G.f25 rfl rfl rfl rfl fun cz hz=>?_
    walk_at "w"
    refine b_d (fun q=>?_) (fun q=>?_)
    · walk_at "w"
      subst hz
      exact mx_t (i6.mp q) M
    · walk_at "w"
      exact mx_f (fun z=>q (i6.mpr z)) M
  | .box k=>fun d u r Q hu M=>by
    refine enter (b:=cLookExpression_0) (loc:=[some (TZ.box k).v,some (.int c),some (.int d)]) G.f25 rfl rfl rfl rfl fun cz hz=>?_
    walk_at "w"
    refine b_d (fun q=>?_) (fun q=>?_)
    · walk_at "w"
      subst hz
      exact mx_t (i6.mp q) M
    · walk_at "w"
      refine need_z G (mx_q (mx_f (fun z=>q (i6.mpr z)) M) fun hQ=>?_)
      walk_at "w"
      exact hQ
  | .call f t=>fun d u r Q hu M=>by
    refine enter (b:=cLookExpression_0) (loc:=[some (TZ.call f t).v,some (.int c),some (.int d)]) G.f25 rfl rfl rfl rfl fun cz hz=>?_
    walk_at "w"
    refine b_d (fun q=>?_) (fun q=>?_)
    · walk_at "w"
      subst hz
      exact mx_t (i6.mp q) M
    · have M:=mx_f (fun z=>q (i6.mpr z)) M
      obtain ⟨u,rfl,hv⟩:=u8 hu (fun z=>q (i6.mpr z))
      walk_at "w"
      refine within_z G (m:=c) ?_
      walk_at "w"
      by_cases q:0 ≤ f ∧ f < (c:Int)
      · refine b_f (by rw [decide_eq_true q]; rfl) ?_
        walk_at "w"
        refine lookE_z t (d + 1) u r _ hv (mx_q (mx_t' q M) fun hQ=>?_)
        walk_at "w"
        exact hQ
      · refine b_t (by rw [decide_eq_false q]; rfl) ?_
        walk_at "w"
        subst hz
        exact mx_f' q M
  | .ari w a b=>fun d u r Q hu M=>by
    refine enter (b:=cLookExpression_0) (loc:=[some (TZ.ari w a b).v,some (.int c),some (.int d)]) G.f25 rfl rfl rfl rfl fun cz hz=>?_
    have e1:decide (w.w = 36) = false:=by cases w <;> rfl
    have e2:decide (w.w = 14) = false:=by cases w <;> rfl
    have e3:(!decide (w.w = 35)) = true:=by cases w <;> rfl
    walk_at "w"
    refine b_d (fun q=>?_) (fun q=>?_)
    · walk_at "w"
      subst hz
      exact mx_t (i6.mp q) M
    · have M:=mx_f (fun z=>q (i6.mpr z)) M
      obtain ⟨u,rfl,hv⟩:=u8 hu (fun z=>q (i6.mpr z))
      walk_at "w"
      refine b_f e1 ?_
      walk_at "w"
      refine b_f e2 ?_
      walk_at "w"
      refine b_t e3 ?_
      walk_at "w"
      refine lookE_z a (d + 1) u r _ hv (mx_then M fun M=>?_)
      walk_at "w"
      refine lookE_z b (d + 1) u r _ hv (mx_q M fun hQ=>?_)
      walk_at "w"
      exact hQ
omit G in
noncomputable def LkZ (g:Genv) (h:Hp) (c:Nat) (X:Nat → Hp → Prop) (s:SZ):Prop:=∀ (v:V) (d u r:Nat) (l:Bool) (Q:KE),ZS (PH h) s v → 10 ≤ u + d → d ≤ 8 → Mx (chkS c s d l) Q X h → callWp g (r + 2 * u + 19) 27 [v,.int c,.int d,.bool l] h Q X
theorem lookB_z {b:BZ} (hb:allZ (LkZ g h c X) b) {a d u r:Nat} {l:Bool} {Q:KE} (rb:ZB (PH h) b a) (hu:10 ≤ u + d) (M:Mx (chkB c b d l) Q X h):callWp g (r + 2 * u + 20) 26 [.ref a,.int c,.int d,.bool l] h Q X:=by
  obtain ⟨vs,ha,rl⟩:=rb
  refine enter (b:=cLookBlock_0) (loc:=[some (.ref a),some (.int c),some (.int d),some (.bool l),none]) G.f26 rfl rfl rfl rfl fun cz hz=>?_
  walk_at "w"
  refine b_d (fun q=>?_) (fun q=>?_)
  · walk_at "w"
    subst hz
    exact mx_t (i8.mp q) M
  · have q:¬ 8 < d:=fun z=>q (i8.mpr z)
    have M:=mx_f q M
    have hd:=Nat.not_lt.mp q
    walk_at "w"
    refine f_seq ha rfl (fun xs l' h'=>h' = h ∧ (∃ w,l' = [some (.ref a),some (.int c),some (.int d),some (.bool l),w]) ∧ ∃ b',ZL (PH h) b' xs ∧ allZ (LkZ g h c X) b' ∧ Mx (chkL c b' d l) Q X h) ⟨rfl,⟨_,rfl⟩,b,rl,hb,M⟩ ?_ ?_
    · rintro l' _ ⟨rfl,_,b',rl,_,M⟩
      cases b' with
      | nil=>exact ⟨ha,M⟩
      | cons s b'=>obtain ⟨v,ws,e,_⟩:=rl; cases e
    · rintro x xs l' _ K ⟨rfl,⟨w,rfl⟩,b',rl,hb,M⟩ hK
      cases b' with
      | nil=>cases rl
      | cons s b'=>
        obtain ⟨v,ws,e,rs,rl⟩:=rl
        cases e
        refine ⟨ha,_,rfl,?_⟩
        walk_at "w"
        subst hz
        refine hb.1 x d u r l _ rs hu hd (mx_then M fun M=>?_)
        walk_at "w"
        exact hK _ _ ⟨rfl,⟨_,rfl⟩,b',rl,hb.2,M⟩
mutual
theorem lookS_z:∀ s:SZ,LkZ g h c X s
  | .set k t=>fun v d u r l Q rs hu hd M=>by
    cases rs
    refine enter (b:=cLookStatement_0) (loc:=[some (.tup [.str 22,.int k,t.v]),some (.int c),some (.int d),some (.bool l),none]) G.f27 rfl rfl rfl rfl fun cz hz=>?_
    walk_at "w"
    refine need_z G (mx_then M fun M=>?_)
    walk_at "w"
    refine lookE_z G t 1 7 (r + 2 * u + 7) _ (Nat.le_of_ble_eq_true rfl) (mx_q M fun hQ=>?_)
    walk_at "w"
    exact hQ
  | .say t=>fun v d u r l Q rs hu hd M=>by
    cases rs
    refine enter (b:=cLookStatement_0) (loc:=[some (.tup [.str 23,t.v]),some (.int c),some (.int d),some (.bool l),none]) G.f27 rfl rfl rfl rfl fun cz hz=>?_
    walk_at "w"
    refine lookE_z G t 1 7 (r + 2 * u + 7) _ (Nat.le_of_ble_eq_true rfl) (mx_q M fun hQ=>?_)
    walk_at "w"
    exact hQ
  | .give t=>fun v d u r l Q rs hu hd M=>by
    cases rs
    refine enter (b:=cLookStatement_0) (loc:=[some (.tup [.str 43,t.v]),some (.int c),some (.int d),some (.bool l),none]) G.f27 rfl rfl rfl rfl fun cz hz=>?_
    walk_at "w"
    refine lookE_z G t 1 7 (r + 2 * u + 7) _ (Nat.le_of_ble_eq_true rfl) (mx_q M fun hQ=>?_)
    walk_at "w"
    exact hQ
  | .raise t=>fun v d u r l Q rs hu hd M=>by
    cases rs
    refine enter (b:=cLookStatement_0) (loc:=[some (.tup [.str 31,t.v]),some (.int c),some (.int d),some (.bool l),none]) G.f27 rfl rfl rfl rfl fun cz hz=>?_
    walk_at "w"
    refine lookE_z G t 1 7 (r + 2 * u + 7) _ (Nat.le_of_ble_eq_true rfl) (mx_q M fun hQ=>?_)
    walk_at "w"
    exact hQ
  | .if_ t a b=>fun v d u r l Q rs hu hd M=>by
    obtain ⟨x,y,rfl,ra,rb⟩:=rs
    obtain ⟨u,rfl,hv⟩:=u10 hu hd
    refine enter (b:=cLookStatement_0) (loc:=[some (.tup [.str 37,t.v,.ref x,.ref y]),some (.int c),some (.int d),some (.bool l),none]) G.f27 rfl rfl rfl rfl fun cz hz=>?_
    walk_at "w"
    refine lookE_z G t 1 7 (r + 2 * u + 9) _ (Nat.le_of_ble_eq_true rfl) (mx_then M fun M=>?_)
    walk_at "w"
    refine lookB_z G (lookZs a) (d:=d + 1) ra hv (mx_then M fun M=>?_)
    walk_at "w"
    refine lookB_z G (lookZs b) (d:=d + 1) rb hv (mx_q M fun hQ=>?_)
    walk_at "w"
    exact hQ
  | .loop t a=>fun v d u r l Q rs hu hd M=>by
    obtain ⟨x,rfl,ra⟩:=rs
    obtain ⟨u,rfl,hv⟩:=u10 hu hd
    refine enter (b:=cLookStatement_0) (loc:=[some (.tup [.str 38,t.v,.ref x]),some (.int c),some (.int d),some (.bool l),none]) G.f27 rfl rfl rfl rfl fun cz hz=>?_
    walk_at "w"
    refine lookE_z G t 1 7 (r + 2 * u + 9) _ (Nat.le_of_ble_eq_true rfl) (mx_then M fun M=>?_)
    walk_at "w"
    refine lookB_z G (lookZs a) (d:=d + 1) ra hv (mx_q M fun hQ=>?_)
    walk_at "w"
    exact hQ
  | .catch a n k b=>fun v d u r l Q rs hu hd M=>by
    obtain ⟨x,y,rfl,ra,rb⟩:=rs
    obtain ⟨u,rfl,hv⟩:=u10 hu hd
    refine enter (b:=cLookStatement_0) (loc:=[some (.tup [.str 39,.ref x,optV n,.int k,.ref y]),some (.int c),some (.int d),some (.bool l),none]) G.f27 rfl rfl rfl rfl fun cz hz=>?_
    walk_at "w"
    refine lookB_z G (lookZs a) (d:=d + 1) ra hv (mx_then M fun M=>?_)
    walk_at "w"
    refine need_z G (mx_then M fun M=>?_)
    walk_at "w"
    refine lookB_z G (lookZs b) (d:=d + 1) rb hv (mx_q M fun hQ=>?_)
    walk_at "w"
    exact hQ
  | .end_ a b=>fun v d u r l Q rs hu hd M=>by
    obtain ⟨x,y,rfl,ra,rb⟩:=rs
    obtain ⟨u,rfl,hv⟩:=u10 hu hd
    refine enter (b:=cLookStatement_0) (loc:=[some (.tup [.str 40,.ref x,.ref y]),some (.int c),some (.int d),some (.bool l),none]) G.f27 rfl rfl rfl rfl fun cz hz=>?_
    walk_at "w"
    refine lookB_z G (lookZs a) (d:=d + 1) ra hv (mx_then M fun M=>?_)
    walk_at "w"
    refine lookB_z G (lookZs b) (d:=d + 1) rb hv (mx_q M fun hQ=>?_)
    walk_at "w"
    exact hQ
  | .leave=>fun v d u r l Q rs hu hd M=>by
    cases rs
    cases l with
    | true=>
      refine enter (b:=cLookStatement_0) (loc:=[some (.tup [.str 41]),some (.int c),some (.int d),some (.bool true),none]) G.f27 rfl rfl rfl rfl fun cz hz=>?_
      walk_at "w"
      exact M
    | false=>
      refine enter (b:=cLookStatement_0) (loc:=[some (.tup [.str 41]),some (.int c),some (.int d),some (.bool false),none]) G.f27 rfl rfl rfl rfl fun cz hz=>?_
      walk_at "w"
      subst hz
      exact M
  | .next=>fun v d u r l Q rs hu hd M=>by
    cases rs
    cases l with
    | true=>
      refine enter (b:=cLookStatement_0) (loc:=[some (.tup [.str 42]),some (.int c),some (.int d),some (.bool true),none]) G.f27 rfl rfl rfl rfl fun cz hz=>?_
      walk_at "w"
      exact M
    | false=>
      refine enter (b:=cLookStatement_0) (loc:=[some (.tup [.str 42]),some (.int c),some (.int d),some (.bool false),none]) G.f27 rfl rfl rfl rfl fun cz hz=>?_
      walk_at "w"
      subst hz
      exact M
theorem lookZs:∀ b:BZ,allZ (LkZ g h c X) b
  | .nil=>trivial
  | .cons s b=>⟨lookS_z s,lookZs b⟩
end
omit G in
theorem ZP.len {P:Nat → List V → Prop}:∀ (bs:List BZ) (as:List Nat),ZP P bs as → as.length = bs.length
  | [],_,r=>by cases r; rfl
  | b :: bs,_,r=>by
    obtain ⟨a,as,rfl,_,r⟩:=r
    exact congrArg Nat.succ (ZP.len bs as r)
theorem checked_z {r pa:Nat} {bs:List BZ} {as:List Nat} {Q:KE} (hp:h[pa]? = some (.list (as.map V.ref))) (rp:ZP (PH h) bs as) (M:Mx (chkP bs) Q X h):callWp g (r + 44) 28 [.ref pa] h Q X:=by
  refine enter (b:=cChecked_0) (loc:=[some (.ref pa),none]) G.f28 rfl rfl rfl rfl fun cz hz=>?_
  have hl:=ZP.len bs as rp
  walk_at "w"
  rw [List.length_map,hl]
  refine b_d (fun q=>?_) (fun q=>?_)
  · walk_at "w"
    subst hz
    exact mx_t (Int.ofNat_inj.mp q) M
  · have M:=mx_f (fun z=>q (congrArg Int.ofNat z)) M
    walk_at "w"
    refine f_seq hp rfl (fun xs l' h'=>h' = h ∧ (∃ w,l' = [some (.ref pa),w]) ∧ ∃ bs' as',xs = as'.map V.ref ∧ ZP (PH h) bs' as' ∧ Mx (chkBs bs.length bs') Q X h) ⟨rfl,⟨_,rfl⟩,bs,as,rfl,rp,M⟩ ?_ ?_
    · rintro l' _ ⟨rfl,_,bs',as',e,rp,M⟩
      cases bs' with
      | nil=>exact ⟨hp,M⟩
      | cons b' bs'=>
        obtain ⟨a,as',e2,_⟩:=rp
        subst e2
        cases e
    · rintro x xs l' _ K ⟨rfl,⟨w,rfl⟩,bs',as',e,rp,M⟩ hK
      cases bs' with
      | nil=>cases rp; cases e
      | cons b' bs'=>
        obtain ⟨a,as',e2,rb,rp⟩:=rp
        subst e2
        cases e
        refine ⟨hp,_,rfl,?_⟩
        walk_at "w"
        rw [List.length_map,hl]
        subst hz
        refine lookB_z G (lookZs G b') (d:=1) (u:=9) (r:=r + 5) rb (Nat.le_refl _) (mx_then M fun M=>?_)
        walk_at "w"
        exact hK _ _ ⟨rfl,⟨_,rfl⟩,bs',as',rfl,rp,M⟩
end
end Mine
end
noncomputable section
namespace Mine
noncomputable abbrev big20:Int:=100000000000000000000
noncomputable def pick3 {α:Type} (a b c:α) (i:Int):α:=if i = 0 then a else if i = 1 then b else c
noncomputable def pick2 {α:Type} (a b:α) (i:Int):α:=if i = 0 then a else b
noncomputable def stepZ (i:Int) (t:TZ):TZ:=pick3 (.ari .add t (.box 0)) (.call 0 t) (.ari .sub (.num 2) t) i
noncomputable def deepZ (cell:Int) (leaf:TZ):Nat → TZ
  | 0=>leaf
  | k + 1=>stepZ ((cell + (k:Int)).fmod 3) (deepZ cell leaf k)
noncomputable def sideZ (c:Int) (s:Int) (t:TZ) (du:Nat):TZ × Nat:=if s = 1 then (.ari .add t (.num 1),du) else if s = 2 then (.ari .less (.num 1) t,du) else if s = 3 then (.ari .share t (.box 3),du) else if s = 4 then (.call 0 t,du)
  else if s = 5 ∧ du = 36 then (.ari .sub t (.call c (.num 0)),du) else if s = 5 then (.ari .add t (.box 9),if du = 68 then 36 else du) else (t,du)
noncomputable def treeZ (c cell:Int):TZ × Nat:=
  let m:=cell.fdiv 5
  let s:=(m.fdiv 6).fmod 6
  if cell.fmod 5 = 0 then sideZ c s (.box (pick3 4 (-1) big20 (m.fmod 3))) 36
  else if cell.fmod 5 = 1 then sideZ c s (.call (pick3 c (-1) big20 (m.fmod 3)) (.box (9 * (m.fdiv 3).fmod 2))) 60
  else if cell.fmod 5 = 2 then (pick2 (deepZ m (pick3 (.num 1) (.box 9) (.call c (.num 0)) ((m.fdiv 3).fmod 3)) 6) (.ari .add (deepZ m (pick3 (.num 1) (.box 9) (.call c (.num 0)) ((m.fdiv 3).fmod 3)) 6) (.box 9)) ((m.fdiv 9).fmod 2),47)
  else if cell.fmod 5 = 3 then (deepZ m (.num 1) 5,68)
  else sideZ c s (.call (c - 1) (.box 3)) 68
noncomputable def dueT:Option Nat → Nat
  | none=>68
  | some 69=>36
  | some 70=>60
  | some 71=>38
  | some _=>47
noncomputable def wordOk (o:Option Nat):Prop:=o = none ∨ o = some 69 ∨ o = some 70 ∨ o = some 71 ∨ o = some 72
noncomputable def treeQ (c:Int) (r i j k l s:Int):TZ × Nat:=
  if r = 0 then sideZ c s (.box (pick3 4 (-1) big20 i)) 36
  else if r = 1 then sideZ c s (.call (pick3 c (-1) big20 i) (.box (9 * j))) 60
  else if r = 2 then (pick2 (deepZ i (pick3 (.num 1) (.box 9) (.call c (.num 0)) k) 6) (.ari .add (deepZ i (pick3 (.num 1) (.box 9) (.call c (.num 0)) k) 6) (.box 9)) l,47)
  else if r = 3 then (deepZ i (.num 1) 5,68)
  else sideZ c s (.call (c - 1) (.box 3)) 68
theorem deepZ_mod (cell:Int) (leaf:TZ):∀ k,deepZ cell leaf k = deepZ (cell.fmod 3) leaf k
  | 0=>rfl
  | k + 1=>by
    show stepZ _ _ = stepZ _ _
    rw [deepZ_mod cell leaf k]
    congr 1
    rw [Int.fmod_eq_emod_of_nonneg _ (by decide),Int.fmod_eq_emod_of_nonneg _ (by decide),Int.fmod_eq_emod_of_nonneg _ (by decide),Int.emod_add_emod]
theorem tree_q (c cell:Int):treeZ c cell = treeQ c (cell.fmod 5) ((cell.fdiv 5).fmod 3) (((cell.fdiv 5).fdiv 3).fmod 2) (((cell.fdiv 5).fdiv 3).fmod 3) (((cell.fdiv 5).fdiv 9).fmod 2) (((cell.fdiv 5).fdiv 6).fmod 6):=by
  unfold treeZ treeQ
  dsimp only
  rw [deepZ_mod (cell.fdiv 5) _ 6,deepZ_mod (cell.fdiv 5) (.num 1) 5]
noncomputable def TZ.dp:TZ → Nat
  | .num _=>1
  | .box _=>1
  | .call _ t=>t.dp + 1
  | .ari _ a b=>max a.dp b.dp + 1
noncomputable def goodQ (c r i j k l s:Int):Bool:=let t:=treeQ c r i j k l s
  let o:=chkT c.toNat t.1 1
  dueT o == t.2 && (o == none || o == some 69 || o == some 70 || o == some 72) && decide (t.1.dp ≤ 9)
theorem all_q:((List.range 4).all fun c=>(List.range 5).all fun r=>(List.range 3).all fun i=>(List.range 2).all fun j=>(List.range 3).all fun k=>(List.range 2).all fun l=>(List.range 6).all fun s=>goodQ (c + 1) r i j k l s) = true:=by decide +kernel
theorem fm_nat (a:Int) {n:Nat} (h:0 < n):∃ k:Nat,k < n ∧ a.fmod n = k:=by
  have:=Int.fmod_nonneg_of_pos a (Int.ofNat_lt.mpr h)
  have l:=Int.fmod_lt_of_pos a (Int.ofNat_lt.mpr h)
  exact ⟨(a.fmod n).toNat,(Int.toNat_lt this).mpr l,(Int.toNat_of_nonneg this).symm⟩
theorem good_q {c:Nat} (hc:1 ≤ c ∧ c ≤ 4) (cell:Int):dueT (chkT c (treeZ c cell).1 1) = (treeZ c cell).2 ∧ (wordOk (chkT c (treeZ c cell).1 1) ∧ (treeZ c cell).2 ≠ 38) ∧ (treeZ c cell).1.dp ≤ 9:=by
  obtain ⟨r,r1,r2⟩:=fm_nat cell (n:=5) (by decide)
  obtain ⟨i,i1,i2⟩:=fm_nat (cell.fdiv 5) (n:=3) (by decide)
  obtain ⟨j,j1,j2⟩:=fm_nat ((cell.fdiv 5).fdiv 3) (n:=2) (by decide)
  obtain ⟨k,k1,k2⟩:=fm_nat ((cell.fdiv 5).fdiv 3) (n:=3) (by decide)
  obtain ⟨l,l1,l2⟩:=fm_nat ((cell.fdiv 5).fdiv 9) (n:=2) (by decide)
  obtain ⟨s,s1,s2⟩:=fm_nat ((cell.fdiv 5).fdiv 6) (n:=6) (by decide)
  obtain ⟨c,rfl⟩:∃ d,c = d + 1:=⟨c - 1,(Nat.succ_pred_eq_of_pos hc.1).symm⟩
  have e:treeZ ((c + 1:Nat):Int) cell = treeQ ((c:Int) + 1) r i j k l s:=by
    rw [tree_q]
    show treeQ _ (cell.fmod (5:Nat)) ((cell.fdiv 5).fmod (3:Nat)) (((cell.fdiv 5).fdiv 3).fmod (2:Nat)) (((cell.fdiv 5).fdiv 3).fmod (3:Nat)) (((cell.fdiv 5).fdiv 9).fmod (2:Nat)) (((cell.fdiv 5).fdiv 6).fmod (6:Nat)) = _
    rw [r2,i2,j2,k2,l2,s2]; rfl
  have z:=all_q
  simp only [List.all_eq_true,List.mem_range] at z
  have z:=z c hc.2 r r1 i i1 j j1 k k1 l l1 s s1
  rw [e]
  unfold goodQ at z
  simp only [Bool.and_eq_true,beq_iff_eq,Bool.or_eq_true,decide_eq_true_eq] at z
  obtain ⟨⟨z1,z2⟩,z3⟩:=z
  have et:((c:Int) + 1).toNat = c + 1:=rfl
  rw [et] at z1 z2
  refine ⟨z1,⟨?_,?_⟩,z3⟩
  · rcases z2 with ((q | q) | q) | q
    · exact .inl q
    · exact .inr (.inl q)
    · exact .inr (.inr (.inl q))
    · exact .inr (.inr (.inr (.inr q)))
  · rw [← z1]
    rcases z2 with ((q | q) | q) | q <;> rw [q] <;> decide
noncomputable def goodsZ:List SZ:=[.say (.num 5),.give (.box 3)]
noncomputable def ofL:List SZ → BZ
  | []=>.nil
  | s :: l=>.cons s (ofL l)
noncomputable def st6 (k:Int) (t:TZ):SZ:=if k = 0 then .set 3 t else if k = 1 then .say t else if k = 2 then .if_ t .nil .nil else if k = 3 then .loop t .nil else if k = 4 then .give t else .raise t
noncomputable def stW (k i:Int) (t:TZ × Nat):SZ × Nat:=if k < 6 then (st6 k t.1,t.2) else if k = 6 then (.set (pick3 4 (-1) big20 (i.fmod 3)) t.1,36) else if k = 7 then (.catch (ofL [.say (.num 0)]) none (pick2 4 (-1) (i.fmod 2)) (ofL [.say t.1]),36) else (pick2 .leave .next (i.fmod 2),38)
noncomputable def stZ (c cell other:Int):SZ × Nat:=stW (cell.fmod 9) (cell.fdiv 9) (treeZ c other)
noncomputable def SZ.isCatch:SZ → Bool
  | .catch _ _ _ _=>true
  | _=>false
noncomputable def SZ.isIL:SZ → Bool
  | .if_ _ _ _=>true
  | .loop _ _=>true
  | _=>false
noncomputable def dueZ (s:SZ × Nat) (deep:Nat) (l:Bool):Nat:=if deep = 7 ∧ s.1.isCatch = true then 47 else if s.2 = 38 ∧ l = true then 68 else if s.2 = 68 ∧ deep = 7 ∧ s.1.isIL = true then 47 else s.2
theorem orE_none (a:Option Nat):orE a none = a:=by cases a <;> rfl
theorem none_orE (a:Option Nat):orE none a = a:=rfl
theorem due_or {a b:Option Nat} (h:wordOk a):dueT (orE a b) = if dueT a = 68 then dueT b else dueT a:=by
  rcases h with rfl | rfl | rfl | rfl | rfl <;> rfl
theorem wok_or {a b:Option Nat} (h:wordOk a) (k:wordOk b):wordOk (orE a b):=by
  rcases h with rfl | rfl | rfl | rfl | rfl
  · exact k
  · exact .inr (.inl rfl)
  · exact .inr (.inr (.inl rfl))
  · exact .inr (.inr (.inr (.inl rfl)))
  · exact .inr (.inr (.inr (.inr rfl)))
theorem wok_if {p:Prop} [Decidable p] {a b:Option Nat} (h:wordOk a) (k:wordOk b):wordOk (if p then a else b):=by
  by_cases q:p
  · rw [if_pos q]; exact h
  · rw [if_neg q]; exact k
theorem w72:wordOk (some 72):=.inr (.inr (.inr (.inr rfl)))
theorem w0:wordOk none:=.inl rfl
theorem ifd {deep:Nat} (a:Option Nat) (h:deep ≤ 7):(if 8 < deep + 1 + 1 then some 72 else a) = if deep = 7 then some 72 else a:=by
  by_cases q:deep = 7
  · rw [if_pos q,if_pos (by rw [q]; decide)]
  · rw [if_neg q,if_neg (Nat.not_lt.mpr (Nat.succ_le_succ (Nat.lt_of_le_of_ne h q)))]
noncomputable def PD (c deep:Nat) (l:Bool) (z:SZ × Nat):Prop:=dueT (chkS c z.1 (deep + 1) l) = dueZ z deep l ∧ wordOk (chkS c z.1 (deep + 1) l)
theorem pd_mk {c deep:Nat} {l:Bool} {z:SZ × Nat} {o:Option Nat} (e:chkS c z.1 (deep + 1) l = o) (h:dueT o = dueZ z deep l) (w:wordOk o):PD c deep l z:=by
  subst e; exact ⟨h,w⟩
theorem st_due {c:Nat} (hc:1 ≤ c ∧ c ≤ 4) (cell other:Int) {deep:Nat} (hd:deep ≤ 7) (l:Bool):dueT (chkS c (stZ c cell other).1 (deep + 1) l) = dueZ (stZ c cell other) deep l ∧ wordOk (chkS c (stZ c cell other).1 (deep + 1) l):=by
  obtain ⟨t1,⟨t2,t4⟩,t3⟩:=good_q hc other
  show PD c deep l (stW (cell.fmod 9) (cell.fdiv 9) (treeZ c other))
  generalize treeZ c other = t at *
  unfold stW
  obtain ⟨t,du⟩:=t
  dsimp only at t1 t2 t3 t4
  have plain:∀ s:SZ,s.isCatch = false → s.isIL = false → dueZ (s,du) deep l = du:=fun s h1 h2=>by
    unfold dueZ
    rw [if_neg (fun z=>by rw [h1] at z; cases z.2),if_neg (fun z=>t4 z.1),if_neg (fun z=>by rw [h2] at z; cases z.2.2)]
  have il:∀ s:SZ,s.isCatch = false → s.isIL = true → dueZ (s,du) deep l = if du = 68 ∧ deep = 7 then 47 else du:=fun s h1 h2=>by
    unfold dueZ
    rw [if_neg (fun z=>by rw [h1] at z; cases z.2),if_neg (fun z=>t4 z.1)]
    dsimp only
    by_cases q:du = 68 ∧ deep = 7
    · rw [if_pos q,if_pos ⟨q.1,q.2,h2⟩]
    · rw [if_neg q,if_neg fun z=>q ⟨z.1,z.2.1⟩]
  have deepE:∀ o:Option Nat,o = (if deep = 7 then some 72 else none) → dueT (orE (chkT c t 1) o) = (if du = 68 ∧ deep = 7 then 47 else du):=fun o e=>by
    rw [due_or t2,t1,e]
    by_cases q:du = 68
    · rw [if_pos q]
      by_cases q2:deep = 7
      · rw [if_pos q2,if_pos ⟨q,q2⟩]; rfl
      · rw [if_neg q2,if_neg fun z=>q2 z.2,q]; rfl
    · rw [if_neg q,if_neg fun z=>q z.1]
  have w7:wordOk (if deep = 7 then some 72 else none):=wok_if w72 w0
  refine ite_i (P:=PD c deep l) (fun zz=>?_) fun zz=>ite_i (P:=PD c deep l) (fun zz=>?_) fun zz=>ite_i (P:=PD c deep l) (fun zz=>?_) fun zz=>?_
  · have pl:∀ s:SZ,s.isCatch = false → s.isIL = false → chkS c s (deep + 1) l = chkT c t 1 → PD c deep l (s,du):=fun s h1 h2 e=>pd_mk e (t1.trans (plain s h1 h2).symm) t2
    unfold st6
    refine ite_i (P:=fun s=>PD c deep l (s,du)) (fun zz=>pl _ rfl rfl rfl) fun zz=>ite_i (P:=fun s=>PD c deep l (s,du)) (fun zz=>pl _ rfl rfl rfl) fun zz=>ite_i (P:=fun s=>PD c deep l (s,du)) (fun zz=>?_) fun zz=>ite_i (P:=fun s=>PD c deep l (s,du)) (fun zz=>?_) fun zz=>ite_i (P:=fun s=>PD c deep l (s,du)) (fun zz=>pl _ rfl rfl rfl) fun zz=>pl _ rfl rfl rfl
    · have e:chkS c (.if_ t .nil .nil) (deep + 1) l = orE (chkT c t 1) (if deep = 7 then some 72 else none):=by
        show orE _ (orE (if 8 < deep + 1 + 1 then some 72 else none) (if 8 < deep + 1 + 1 then some 72 else none)) = _
        rw [ifd none hd]
        by_cases z:deep = 7
        · rw [if_pos z]; rfl
        · rw [if_neg z]; rfl
      exact pd_mk e ((deepE _ rfl).trans (il _ rfl rfl).symm) (wok_or t2 w7)
    · have e:chkS c (.loop t .nil) (deep + 1) l = orE (chkT c t 1) (if deep = 7 then some 72 else none):=by
        show orE _ (if 8 < deep + 1 + 1 then some 72 else none) = _
        rw [ifd none hd]
      exact pd_mk e ((deepE _ rfl).trans (il _ rfl rfl).symm) (wok_or t2 w7)
  · have e:boxE (pick3 4 (-1) big20 ((cell.fdiv 9).fmod 3)) = some 69:=by
      unfold pick3
      exact ite_i (P:=fun z=>boxE z = some 69) (fun zz=>rfl) fun zz=>ite_i (P:=fun z=>boxE z = some 69) (fun zz=>rfl) fun zz=>rfl
    refine pd_mk (o:=some 69) (congrArg (orE · _) e) ?_ (.inr (.inl rfl))
    show 36 = dueZ (SZ.set _ t,36) deep l
    unfold dueZ
    rw [if_neg (fun z=>nomatch z.2),if_neg (fun z=>nomatch z.1),if_neg (fun z=>nomatch z.1)]
  · have e:boxE (pick2 4 (-1) ((cell.fdiv 9).fmod 2)) = some 69:=by
      unfold pick2
      exact ite_i (P:=fun z=>boxE z = some 69) (fun zz=>rfl) fun zz=>rfl
    have dz:∀ a b k,dueZ (SZ.catch a none k b,36) deep l = if deep = 7 then 47 else 36:=fun a b k=>by
      unfold dueZ
      by_cases z:deep = 7
      · rw [if_pos z,if_pos ⟨z,rfl⟩]
      · rw [if_neg z,if_neg fun y=>z y.1,if_neg (fun y=>absurd (show (36:Nat) = 38 from y.1) (by decide)),if_neg (fun y=>absurd (show (36:Nat) = 68 from y.1) (by decide))]
    have cz:∃ R,chkS c (.catch (ofL [.say (.num 0)]) none (pick2 4 (-1) ((cell.fdiv 9).fmod 2)) (ofL [.say t])) (deep + 1) l = orE (if deep = 7 then some 72 else none) (orE (some 69) R):=by
      refine ⟨if 8 < deep + 1 + 1 then some 72 else chkL c (ofL [.say t]) (deep + 1 + 1) l,?_⟩
      show orE (if 8 < deep + 1 + 1 then some 72 else none) (orE (boxE _) _) = _
      rw [e,ifd none hd]
    obtain ⟨R,cz⟩:=cz
    refine pd_mk cz ((?_:_ = if deep = 7 then 47 else 36).trans (dz _ _ _).symm) ?_
    · by_cases z:deep = 7
      · rw [if_pos z,if_pos z]; rfl
      · rw [if_neg z,if_neg z]; rfl
    · by_cases z:deep = 7
      · rw [if_pos z]; exact w72
      · rw [if_neg z]; exact .inr (.inl rfl)
  · have e:chkS c (pick2 .leave .next ((cell.fdiv 9).fmod 2)) (deep + 1) l = if l then none else some 71:=by
      unfold pick2
      exact ite_i (P:=fun z=>chkS c z (deep + 1) l = if l then none else some 71) (fun zz=>rfl) fun zz=>rfl
    have e2:(pick2 SZ.leave .next ((cell.fdiv 9).fmod 2)).isCatch = false:=by
      unfold pick2
      exact ite_i (P:=fun z:SZ=>z.isCatch = false) (fun zz=>rfl) fun zz=>rfl
    have dz:dueZ (pick2 SZ.leave .next ((cell.fdiv 9).fmod 2),38) deep l = if l then 68 else 38:=by
      unfold dueZ
      dsimp only
      rw [e2,if_neg (fun y=>absurd y.2 (by decide))]
      cases l with
      | true=>rfl
      | false=>rw [if_neg (fun y=>absurd y.2 (by decide)),if_neg (fun y=>absurd y.1 (by decide))]; rfl
    refine pd_mk e ((?_:_ = if l then 68 else 38).trans dz.symm) ?_
    · cases l <;> rfl
    · cases l with
      | true=>exact w0
      | false=>exact .inr (.inr (.inr (.inl rfl)))
end Mine
end
noncomputable section
namespace Mine
noncomputable def repZ {α:Type} (xs:List α):Nat → List α
  | 0=>[]
  | n + 1=>xs ++ repZ xs n
noncomputable def blockZ (f:Int) (one other:SZ):List SZ:=repZ (goodsZ.take ((f.fdiv 4).fmod 3).toNat) (pick3 1 1 30 ((f.fdiv 864).fmod 3)) ++ [one] ++ goodsZ.drop ((f.fdiv 12).fmod 3).toNat ++ [other] ++ goodsZ.take ((f.fdiv 36).fmod 2).toNat
noncomputable def besideZ (bad:Bool):List SZ:=if bad then [.set 7 (.num 0)] else []
noncomputable def aroundZ (b:List SZ) (w:Int) (bad:Bool):List SZ:=
  if w = 0 then [.if_ (.box 1) (ofL b) (ofL (besideZ bad)),.say (.box 2)] else if w = 1 then [.if_ (.box 1) .nil (ofL b)] else if w = 2 then [.set 0 (.num 1),.catch (ofL b) none 1 (ofL (besideZ bad)),.say (.num 3)]
  else if w = 3 then [.catch .nil (some 3) 1 (ofL b)] else if w = 4 then [.end_ (ofL b) (ofL (besideZ bad)),.raise (.num 2)] else if w = 5 then [.say (.num 3),.end_ .nil (ofL b)] else [.loop (.num 0) (ofL b)]
noncomputable def inW (w:Int):Bool:=decide (w = 0 ∨ w = 2 ∨ w = 4)
noncomputable def wrapZ (ways:List Int) (bad:Nat → Bool) (b:List SZ) (du:Nat):Nat → List SZ × Nat
  | 0=>(b,du)
  | k + 1=>let p:=wrapZ ways bad b du k
    (aroundZ p.1 (ways.getD k 0) (bad k),if p.2 = 68 ∧ bad k = true ∧ inW (ways.getD k 0) = true then 36 else p.2)
section
variable {c:Nat}
theorem chk_app {d:Nat} {l:Bool}:∀ (xs ys:List SZ),chkL c (ofL (xs ++ ys)) d l = orE (chkL c (ofL xs) d l) (chkL c (ofL ys) d l)
  | [],ys=>rfl
  | x :: xs,ys=>by
    show orE (chkS c x d l) (chkL c (ofL (xs ++ ys)) d l) = orE (orE (chkS c x d l) (chkL c (ofL xs) d l)) _
    rw [chk_app xs ys]
    cases chkS c x d l <;> rfl
noncomputable def fine (c:Nat) (xs:List SZ):Prop:=∀ x ∈ xs,∀ d l,chkS c x d l = none
theorem fine_none {d:Nat} {l:Bool}:∀ (xs:List SZ),fine c xs → chkL c (ofL xs) d l = none
  | [],_=>rfl
  | x :: xs,h=>by
    show orE (chkS c x d l) (chkL c (ofL xs) d l) = none
    rw [h x (.head _),fine_none xs fun y hy=>h y (.tail _ hy)]; rfl
theorem fine_goods:fine c goodsZ:=fun x hx d l=>by
  rcases List.mem_cons.mp hx with rfl | hx
  · rfl
  · rcases List.mem_cons.mp hx with rfl | hx
    · rfl
    · cases hx
theorem fine_rep {xs:List SZ} (h:fine c xs):∀ n,fine c (repZ xs n)
  | 0=>fun x hx=>(nomatch hx)
  | n + 1=>fun x hx=>by
    rcases List.mem_append.mp hx with q | q
    · exact h x q
    · exact fine_rep h n x q
theorem chk_block (f:Int) (one other:SZ) (d:Nat) (l:Bool):chkL c (ofL (blockZ f one other)) d l = orE (chkS c one d l) (chkS c other d l):=by
  unfold blockZ
  rw [chk_app,chk_app,chk_app,chk_app,fine_none _ (fine_rep (fun x hx=>fine_goods x (List.mem_of_mem_take hx)) _),fine_none _ (fun x hx=>fine_goods x (List.mem_of_mem_drop hx)),fine_none (goodsZ.take _) (fun x hx=>fine_goods x (List.mem_of_mem_take hx))]
  show orE (orE (orE (orE none (orE (chkS c one d l) none)) none) (orE (chkS c other d l) none)) none = _
  rw [orE_none,orE_none,orE_none,orE_none,none_orE]
theorem chk_beside (bad:Bool) (d:Nat) (l:Bool):chkL c (ofL (besideZ bad)) d l = if bad then some 69 else none:=by cases bad <;> rfl
theorem around_due (b:List SZ) {w:Int} (hw:w.fmod 7 = w) (bad:Bool) {d:Nat} (hd:d ≤ 8) (l:Bool) (hi:wordOk (chkB c (ofL b) (d + 1) (l || w == 6))) (hb:d = 8 → chkB c (ofL b) (d + 1) (l || w == 6) = some 72) :
    dueT (chkL c (ofL (aroundZ b w bad)) d l) = (if dueT (chkB c (ofL b) (d + 1) (l || w == 6)) = 68 ∧ bad = true ∧ inW w = true then 36 else dueT (chkB c (ofL b) (d + 1) (l || w == 6))) ∧ wordOk (chkL c (ofL (aroundZ b w bad)) d l):=by
  have nl:∀ l',chkB c .nil (d + 1) l' = if d = 8 then some 72 else none:=fun l'=>by
    unfold chkB
    by_cases q:d = 8
    · rw [if_pos q,if_pos (by rw [q]; decide)]
    · rw [if_neg q,if_neg (Nat.not_lt.mpr (Nat.lt_of_le_of_ne hd q))]; rfl
  have bs:∀ l',orE (chkB c (ofL b) (d + 1) (l || w == 6)) (chkB c (ofL (besideZ bad)) (d + 1) l') = orE (chkB c (ofL b) (d + 1) (l || w == 6)) (if bad then some 69 else none):=fun l'=>by
    by_cases q:d = 8
    · rw [hb q]; rfl
    · unfold chkB
      rw [if_neg (Nat.not_lt.mpr (Nat.lt_of_le_of_ne hd q)),if_neg (Nat.not_lt.mpr (Nat.lt_of_le_of_ne hd q)),chk_beside]
  have nn:orE (if d = 8 then some 72 else none) (chkB c (ofL b) (d + 1) (l || w == 6)) = chkB c (ofL b) (d + 1) (l || w == 6):=by
    by_cases q:d = 8
    · rw [if_pos q,hb q]; rfl
    · rw [if_neg q]; rfl
  generalize hI:chkB c (ofL b) (d + 1) (l || w == 6) = I at *
  have wb:wordOk (if bad = true then some 69 else none):=wok_if (.inr (.inl rfl)) w0
  have side:inW w = true → dueT (orE I (if bad then some 69 else none)) = (if dueT I = 68 ∧ bad = true ∧ inW w = true then 36 else dueT I):=fun hw=>by
    rw [due_or hi]
    by_cases q:dueT I = 68
    · rw [if_pos q]
      cases bad with
      | true=>exact (show (36:Nat) = _ from (if_pos ⟨q,rfl,hw⟩).symm)
      | false=>exact (show (68:Nat) = _ from q.symm.trans (if_neg (fun z=>absurd z.2.1 (by decide))).symm)
    · rw [if_neg q,if_neg fun z=>q z.1]
  have none_:inW w = false → (if dueT I = 68 ∧ bad = true ∧ inW w = true then 36 else dueT I) = dueT I:=fun h=>if_neg fun z=>by rw [h] at z; exact absurd z.2.2 (by decide)
  have m7:=mod_in w (show (0:Int) < 7 by decide)
  rw [hw] at m7
  have cases7:w = 0 ∨ w = 1 ∨ w = 2 ∨ w = 3 ∨ w = 4 ∨ w = 5 ∨ w = 6:=fmodc (m:=7) (P:=fun w=>w = 0 ∨ w = 1 ∨ w = 2 ∨ w = 3 ∨ w = 4 ∨ w = 5 ∨ w = 6) m7 (by decide)
  rcases cases7 with rfl | rfl | rfl | rfl | rfl | rfl | rfl
  · have e:chkL c (ofL (aroundZ b 0 bad)) d l = orE I (if bad then some 69 else none):=by
      show orE (orE none (orE (chkB c (ofL b) (d + 1) l) (chkB c (ofL (besideZ bad)) (d + 1) l))) none = _
      rw [orE_none,none_orE,show chkB c (ofL b) (d + 1) l = I by rw [← hI]; cases l <;> rfl,bs]
    rw [e]; exact ⟨side rfl,wok_or hi wb⟩
  · have e:chkL c (ofL (aroundZ b 1 bad)) d l = I:=by
      show orE (orE none (orE (chkB c .nil (d + 1) l) (chkB c (ofL b) (d + 1) l))) none = _
      rw [orE_none,none_orE,nl,show chkB c (ofL b) (d + 1) l = I by rw [← hI]; cases l <;> rfl,nn]
    rw [e]; exact ⟨(none_ rfl).symm,hi⟩
  · have e:chkL c (ofL (aroundZ b 2 bad)) d l = orE I (if bad then some 69 else none):=by
      show orE none (orE (orE (chkB c (ofL b) (d + 1) l) (orE none (chkB c (ofL (besideZ bad)) (d + 1) l))) none) = _
      rw [orE_none,none_orE,none_orE,show chkB c (ofL b) (d + 1) l = I by rw [← hI]; cases l <;> rfl,bs]
    rw [e]; exact ⟨side rfl,wok_or hi wb⟩
  · have e:chkL c (ofL (aroundZ b 3 bad)) d l = I:=by
      show orE (orE (chkB c .nil (d + 1) l) (orE none (chkB c (ofL b) (d + 1) l))) none = _
      rw [orE_none,none_orE,nl,show chkB c (ofL b) (d + 1) l = I by rw [← hI]; cases l <;> rfl,nn]
    rw [e]; exact ⟨(none_ rfl).symm,hi⟩
  · have e:chkL c (ofL (aroundZ b 4 bad)) d l = orE I (if bad then some 69 else none):=by
      show orE (orE (chkB c (ofL b) (d + 1) l) (chkB c (ofL (besideZ bad)) (d + 1) l)) none = _
      rw [orE_none,show chkB c (ofL b) (d + 1) l = I by rw [← hI]; cases l <;> rfl,bs]
    rw [e]; exact ⟨side rfl,wok_or hi wb⟩
  · have e:chkL c (ofL (aroundZ b 5 bad)) d l = I:=by
      show orE none (orE (orE (chkB c .nil (d + 1) l) (chkB c (ofL b) (d + 1) l)) none) = _
      rw [orE_none,none_orE,nl,show chkB c (ofL b) (d + 1) l = I by rw [← hI]; cases l <;> rfl,nn]
    rw [e]; exact ⟨(none_ rfl).symm,hi⟩
  · have e:chkL c (ofL (aroundZ b 6 bad)) d l = I:=by
      show orE (orE none (chkB c (ofL b) (d + 1) true)) none = _
      rw [orE_none,none_orE,← hI]; cases l <;> rfl
    rw [e]; exact ⟨(none_ rfl).symm,hi⟩
end
end Mine
end
noncomputable section
namespace Mine
noncomputable def lpZ (ways:List Int) (k:Nat):Bool:=(ways.drop k).any (· == 6)
section
variable {c:Nat}
theorem lp_cons {ways:List Int} {k:Nat} (h:k < ways.length):lpZ ways k = (lpZ ways (k + 1) || ways.getD k 0 == 6):=by
  unfold lpZ
  rw [List.drop_eq_getElem_cons h,List.any_cons,Bool.or_comm,List.getD_eq_getElem?_getD,List.getElem?_eq_getElem h]; rfl
theorem wrap_due {ways:List Int} {bad:Nat → Bool} {b:List SZ} {du:Nat} (hw:∀ w ∈ ways,w.fmod 7 = w) (hd:ways.length ≤ 8) (h0:dueT (chkB c (ofL b) (ways.length + 1) (lpZ ways 0)) = du ∧ wordOk (chkB c (ofL b) (ways.length + 1) (lpZ ways 0))) :
    ∀ k e,k + e = ways.length → dueT (chkB c (ofL (wrapZ ways bad b du k).1) (e + 1) (lpZ ways k)) = (wrapZ ways bad b du k).2 ∧ wordOk (chkB c (ofL (wrapZ ways bad b du k).1) (e + 1) (lpZ ways k))
  | 0,e,h=>by
    have h:e = ways.length:=(Nat.zero_add e).symm.trans h
    rw [h]; exact h0
  | k + 1,e,h=>by
    obtain ⟨i1,i2⟩:=wrap_due hw hd h0 k (e + 1) ((Nat.succ_add_eq_add_succ k e).symm.trans h)
    have hk:k < ways.length:=Nat.lt_of_lt_of_le (Nat.lt_succ_self k) (nlt (Nat.le_add_right _ _) (Nat.le_of_eq h))
    have he:e + 1 ≤ 8:=nlt (nlt (Nat.le_add_left (e + 1) k) (Nat.le_of_eq ((Nat.succ_add_eq_add_succ k e).symm.trans h))) hd
    rw [lp_cons hk] at i1 i2
    have w7:(ways.getD k 0).fmod 7 = ways.getD k 0:=by
      rw [List.getD_eq_getElem?_getD,List.getElem?_eq_getElem hk]
      exact hw _ (List.getElem_mem hk)
    have z:=around_due (wrapZ ways bad b du k).1 w7 (bad k) he (lpZ ways (k + 1)) i2 (fun q=>if_pos (by rw [q]; decide))
    rw [i1] at z
    unfold chkB
    rw [if_neg (Nat.not_lt.mpr he)]
    exact z
theorem orE_wd {a b:Option Nat} (h:wordOk a) (k:wordOk b) {da db:Nat} (e1:dueT a = da) (e2:dueT b = db):dueT (orE a b) = (if da = 68 then db else da) ∧ wordOk (orE a b):=⟨by rw [due_or h,e1,e2],wok_or h k⟩
noncomputable def gbZ:List SZ:=[.give (.box 0)]
noncomputable def lastZ:List SZ:=[.say (.num 0),.set 7 (.num 0)]
theorem chks_rep:∀ n,chkBs c ((List.replicate n gbZ).map ofL) = none
  | 0=>rfl
  | n + 1=>by
    show orE (chkB c (ofL gbZ) 1 false) (chkBs c ((List.replicate n gbZ).map ofL)) = none
    rw [chks_rep n]; rfl
theorem chks_set {x:List SZ}:∀ n i,i < n → chkBs c (((List.replicate n gbZ).set i x).map ofL) = chkB c (ofL x) 1 false
  | 0,i,h=>absurd h (Nat.not_lt_zero i)
  | n + 1,0,h=>by
    show orE (chkB c (ofL x) 1 false) (chkBs c ((List.replicate n gbZ).map ofL)) = _
    rw [chks_rep,orE_none]
  | n + 1,i + 1,h=>by
    show orE (chkB c (ofL gbZ) 1 false) (chkBs c (((List.replicate n gbZ).set i x).map ofL)) = _
    rw [chks_set n i (Nat.lt_of_succ_lt_succ h)]; rfl
theorem chks_set2 {x y:List SZ}:∀ n i,i < n → chkBs c ((((List.replicate (n + 1) gbZ).set i x).set n y).map ofL) = orE (chkB c (ofL x) 1 false) (chkB c (ofL y) 1 false)
  | 0,i,h=>absurd h (Nat.not_lt_zero i)
  | n + 1,0,h=>by
    show orE (chkB c (ofL x) 1 false) (chkBs c (((List.replicate (n + 1) gbZ).set n y).map ofL)) = _
    rw [chks_set (n + 1) n (Nat.lt_succ_self n)]
  | n + 1,i + 1,h=>by
    show orE (chkB c (ofL gbZ) 1 false) (chkBs c ((((List.replicate (n + 1) gbZ).set i x).set n y).map ofL)) = _
    rw [chks_set2 n i (Nat.lt_of_succ_lt_succ h)]; rfl
end
section
variable (cell:Nat → Int)
noncomputable def firstZ:Int:=(cell 0 * 48271).fmod 1000003
noncomputable def cntZ:Nat:=((firstZ cell).fmod 4).toNat + 1
noncomputable def oneZ:SZ × Nat:=stZ (cntZ cell) (cell 1) (cell 2)
noncomputable def othZ:SZ × Nat:=stZ (cntZ cell) (cell 3) (cell 4)
noncomputable def deepN:Nat:=((cell 5).fmod 9).toNat
noncomputable def waysZ:List Int:=(List.range (deepN cell)).map fun k=>(cell (6 + k)).fmod 7
noncomputable def badZ (k:Nat):Bool:=decide ((cell (14 + k)).fmod 5 = 1)
noncomputable def due0Z:Nat:=if deepN cell < 8 then (if dueZ (oneZ cell) (deepN cell) (lpZ (waysZ cell) 0) = 68 then dueZ (othZ cell) (deepN cell) (lpZ (waysZ cell) 0) else dueZ (oneZ cell) (deepN cell) (lpZ (waysZ cell) 0)) else 47
noncomputable def blk0Z:List SZ:=blockZ (firstZ cell) (oneZ cell).1 (othZ cell).1
noncomputable def finZ:List SZ × Nat:=wrapZ (waysZ cell) (badZ cell) (blk0Z cell) (due0Z cell) (deepN cell)
noncomputable def atZ:Nat:=(((firstZ cell).fdiv 72).fmod (cntZ cell)).toNat
noncomputable def moreZ:Bool:=decide (((firstZ cell).fdiv 288).fmod 3 = 1) && decide (atZ cell + 1 < cntZ cell)
noncomputable def progL:List (List SZ):=if moreZ cell then ((List.replicate (cntZ cell) gbZ).set (atZ cell) (finZ cell).1).set (cntZ cell - 1) lastZ else (List.replicate (cntZ cell) gbZ).set (atZ cell) (finZ cell).1
noncomputable def progD:Nat:=if moreZ cell then (if (finZ cell).2 = 68 then 36 else (finZ cell).2) else (finZ cell).2
end
section
variable {cell:Nat → Int}
theorem fm_lt (a:Int) {n:Nat} (h:0 < n):(a.fmod n).toNat < n ∧ (((a.fmod n).toNat:Nat):Int) = a.fmod n:=by
  obtain ⟨k,k1,k2⟩:=fm_nat a h
  rw [k2]; exact ⟨k1,rfl⟩
theorem cnt_ok:1 ≤ cntZ cell ∧ cntZ cell ≤ 4:=⟨Nat.succ_le_succ (Nat.zero_le _),(fm_lt (firstZ cell) (n:=4) (by decide)).1⟩
theorem deep_ok:deepN cell ≤ 8:=Nat.le_of_lt_succ (fm_lt (cell 5) (n:=9) (by decide)).1
theorem at_ok:atZ cell < cntZ cell:=(fm_lt ((firstZ cell).fdiv 72) cnt_ok.1).1
theorem ways_len:(waysZ cell).length = deepN cell:=by unfold waysZ; rw [List.length_map,List.length_range]
theorem fin_due:dueT (chkB (cntZ cell) (ofL (finZ cell).1) 1 false) = (finZ cell).2 ∧ wordOk (chkB (cntZ cell) (ofL (finZ cell).1) 1 false):=by
  have hl:=ways_len (cell:=cell)
  have z:=wrap_due (c:=cntZ cell) (ways:=waysZ cell) (bad:=badZ cell) (b:=blk0Z cell) (du:=due0Z cell) (fun w hw=>?_) (by rw [hl]; exact deep_ok) ?_ (deepN cell) 0 hl.symm
  · rw [show lpZ (waysZ cell) (deepN cell) = false by unfold lpZ; rw [List.drop_of_length_le (Nat.le_of_eq hl)]; rfl] at z
    exact z
  · unfold waysZ at hw
    obtain ⟨k,_,rfl⟩:=List.mem_map.mp hw
    rw [Int.fmod_eq_emod_of_nonneg _ (by decide),Int.fmod_eq_emod_of_nonneg _ (by decide),Int.emod_emod_of_dvd _ (Int.dvd_refl 7)]
  · rw [hl]
    unfold due0Z
    by_cases q:deepN cell < 8
    · rw [if_pos q]
      have s1:=st_due (cnt_ok (cell:=cell)) (cell 1) (cell 2) (Nat.le_of_lt_succ q) (lpZ (waysZ cell) 0)
      have s2:=st_due (cnt_ok (cell:=cell)) (cell 3) (cell 4) (Nat.le_of_lt_succ q) (lpZ (waysZ cell) 0)
      unfold chkB blk0Z
      rw [if_neg (Nat.not_lt.mpr q),chk_block]
      exact orE_wd s1.2 s2.2 s1.1 s2.1
    · rw [if_neg q]
      have e:deepN cell = 8:=Nat.le_antisymm deep_ok (Nat.not_lt.mp q)
      rw [e]
      exact ⟨rfl,w72⟩
theorem prog_len:(progL cell).length = cntZ cell:=by
  unfold progL
  split
  · rw [List.length_set,List.length_set,List.length_replicate]
  · rw [List.length_set,List.length_replicate]
theorem prog_due:dueT (chkP ((progL cell).map ofL)) = progD cell ∧ wordOk (chkP ((progL cell).map ofL)):=by
  unfold chkP
  rw [List.length_map,prog_len,if_neg (fun z=>absurd z (Nat.ne_of_gt cnt_ok.1))]
  unfold progL progD
  cases hm:moreZ cell with
  | false=>
    rw [if_neg (by decide),if_neg (by decide),chks_set _ _ at_ok]
    exact fin_due
  | true=>
    rw [if_pos rfl,if_pos rfl]
    obtain ⟨m1,m2⟩:=Bool.and_eq_true_iff.mp hm
    have m2:=of_decide_eq_true m2
    have z:=chks_set2 (c:=cntZ cell) (x:=(finZ cell).1) (y:=lastZ) (cntZ cell - 1) (atZ cell) (Nat.lt_of_lt_of_le (Nat.lt_succ_self _) (Nat.le_pred_of_lt m2))
    rw [Nat.sub_add_cancel cnt_ok.1] at z
    rw [z]
    exact orE_wd fin_due.2 (.inr (.inl rfl)) fin_due.1 rfl
theorem due_cases {o:Option Nat} {d:Nat} (h:dueT o = d) (w:wordOk o):(d = 68 ∧ o = none) ∨ ∃ k,o = some k ∧ (k,d) ∈ [(69,36),(70,60),(71,38),(72,47)]:=by
  subst h
  rcases w with rfl | rfl | rfl | rfl | rfl
  · exact .inl ⟨rfl,rfl⟩
  · exact .inr ⟨_,rfl,by decide⟩
  · exact .inr ⟨_,rfl,by decide⟩
  · exact .inr ⟨_,rfl,by decide⟩
  · exact .inr ⟨_,rfl,by decide⟩
end
end Mine
end
noncomputable section
namespace Mine
noncomputable def Gr (h h':Hp):Prop:=∀ (a:Nat) (o:O),h[a]? = some o → h'[a]? = some o
theorem Gr.refl {h:Hp}:Gr h h:=fun zz zz e=>e
theorem Gr.trans {h h1 h2:Hp} (x:Gr h h1) (y:Gr h1 h2):Gr h h2:=fun a o e=>y a o (x a o e)
theorem Gr.app {h:Hp} (l:List O):Gr h (h ++ l):=fun a o e=>by rw [List.getElem?_append_left (get_lt e)]; exact e
theorem Gr.ph {h h':Hp} (x:Gr h h'):∀ a vs,PH h a vs → PH h' a vs:=fun a vs e=>x a _ e
theorem at_end {h:Hp} {o:O}:(h ++ [o])[h.length]? = some o:=List.getElem?_concat_length
section
variable {c:Cz} {loc:Locs} {h:Hp} {Q:KE}
theorem l_lstG {vs:List V} (k:∀ h' a,Gr h h' → h'[a]? = some (.list vs) → Q (.ref a) h'):kLst Q vs h:=k _ _ (.app _) at_end
theorem o_addG {x y:Nat} {xs ys:List V} (hx:h[x]? = some (.list xs)) (hy:h[y]? = some (.list ys)) (hl:xs.length + ys.length ≤ lim) (k:∀ h' a,Gr h h' → h'[a]? = some (.list (xs ++ ys)) → Q (.ref a) h'):kBin2 .add (.ref x) Q (.ref y) h:=o_bind (bin_addl hx hy hl) (k _ _ (.app _) at_end)
theorem o_mulG {x:Nat} {n:Int} {xs:List V} (hx:h[x]? = some (.list xs)) (hl:n.natAbs ≤ lim ∧ xs.length * n.toNat ≤ lim) (k:∀ h' a,Gr h h' → h'[a]? = some (.list (repL xs n.toNat)) → Q (.ref a) h'):kBin2 .mul (.ref x) Q (.int n) h:=o_bind (bin_mull hx hl) (k _ _ (.app _) at_end)
theorem o_slcG {x:Nat} {xs:List V} {vl vh:V} {l u:Option Nat} (hx:h[x]? = some (.list xs)) (hl:bnd vl = some l) (hu:bnd vh = some u) (k:∀ h' a,Gr h h' → h'[a]? = some (.list (cut xs l u)) → Q (.ref a) h'):kSlc3 (.ref x) vl Q vh h:=by
  refine o_slc (v:=.ref h.length) (h':=h ++ [.list (cut xs l u)]) ?_ (k _ _ (.app _) at_end)
  have e:itmOf (.ref x) h = some xs:=by show (h[x]?).bind O.items = _; rw [hx]; rfl
  unfold slcop
  rw [hl,hu]
  show (itmOf (.ref x) h).map _ = _
  rw [e]; rfl
end
theorem pick3_at {a b c:V} (i:Int):seqAt [a,b,c] (i.fmod 3) = some (pick3 a b c (i.fmod 3)):=by
  have m3:=mod_in i (show (0:Int) < 3 by decide)
  rcases fmodc (m:=3) (P:=fun x=>x = 0 ∨ x = 1 ∨ x = 2) m3 (by decide) with e | e | e <;> rw [e] <;> rfl
theorem pick2_at {a b:V} (i:Int):seqAt [a,b] (i.fmod 2) = some (pick2 a b (i.fmod 2)):=by
  rcases fmod2 (mod_in i (show (0:Int) < 2 by decide)) with e | e <;> rw [e] <;> rfl
theorem pick3_map {α β:Type} (f:α → β) {a b c:α} {i:Int}:pick3 (f a) (f b) (f c) i = f (pick3 a b c i):=by
  unfold pick3
  by_cases q:i = 0
  · rw [if_pos q,if_pos q]
  · rw [if_neg q,if_neg q]
    by_cases q:i = 1
    · rw [if_pos q,if_pos q]
    · rw [if_neg q,if_neg q]
theorem pick2_map {α β:Type} (f:α → β) {a b:α} {i:Int}:pick2 (f a) (f b) i = f (pick2 a b i):=by
  unfold pick2
  by_cases q:i = 0
  · rw [if_pos q,if_pos q]
  · rw [if_neg q,if_neg q]
theorem int3_at {a b c:Int} (i:Int):seqAt [.int a,.int b,.int c] (i.fmod 3) = some (.int (pick3 a b c (i.fmod 3))):=(pick3_at i).trans (congrArg some (pick3_map V.int))
theorem int2_at {a b:Int} (i:Int):seqAt [.int a,.int b] (i.fmod 2) = some (.int (pick2 a b (i.fmod 2))):=(pick2_at i).trans (congrArg some (pick2_map V.int))
theorem tree3_at {a b c:TZ} (i:Int):seqAt [a.v,b.v,c.v] (i.fmod 3) = some (pick3 a b c (i.fmod 3)).v:=(pick3_at i).trans (congrArg some (pick3_map TZ.v))
theorem tree2_at {a b:TZ} (i:Int):seqAt [a.v,b.v] (i.fmod 2) = some (pick2 a b (i.fmod 2)).v:=(pick2_at i).trans (congrArg some (pick2_map TZ.v))
structure NG (g:Genv):Prop where
  f12:g.fn 12 = some fCellAt
  f13:g.fn 13 = some zDeepTree
  f14:g.fn 14 = some zTree
  f15:g.fn 15 = some zStatement
  f16:g.fn 16 = some zAround
  f17:g.fn 17 = some zDue
  f18:g.fn 18 = some zProgram
noncomputable def TP (h:Hp) (Q:KE) (p:TZ × Nat):Prop:=∀ h',Gr h h' → Q (.tup [p.1.v,.str p.2]) h'
theorem TP.now {h h1:Hp} {Q:KE} {p:TZ × Nat} (g:Gr h h1) (t:TP h Q p):TP h1 Q p:=fun h' g'=>t h' (g.trans g')
section
variable {g:Genv} (G:NG g) {r:Nat} {h:Hp} {Q:KE} {X:Nat → Hp → Prop} {c:Nat}
include G
theorem deepT_ok {n:Nat} {m cell:Int} {t:TZ} (e:m - 1 = (n:Int)) (hn:n ≤ 100) (hQ:∀ h',Gr h h' → Q (deepZ cell t n).v h'):callWp g (r + 2) 13 [.int m,.int cell,t.v] h Q X:=by
  refine enter (b:=zDeepTree_0) (loc:=[some (.int m),some (.int cell),some t.v,none,none]) G.f13 rfl rfl rfl rfl fun cz hc=>?_
  walk_at "w"
  rw [e]
  refine f_ran ⟨Int.le_trans (by decide) (Int.natCast_nonneg n),Int.ofNat_le.mpr (nlt hn (by decide))⟩ (fun k l h'=>Gr h h' ∧ ∃ u,l = [some (.int m),some (.int cell),some t.v,some (deepZ cell t k).v,u]) ⟨.refl,none,rfl⟩ ?_ ?_
  · rintro l h' ⟨g1,u,rfl⟩
    rw [Int.toNat_natCast]
    walk_at "w"
    exact hQ _ g1
  · rintro k l h' K hk ⟨g1,u,rfl⟩ hK
    refine ⟨_,rfl,?_⟩
    have e3:=tree3_at (a:=.ari .add (deepZ cell t k) (.box 0)) (b:=.call 0 (deepZ cell t k)) (c:=.ari .sub (.num 2) (deepZ cell t k)) (cell + k)
    walk_at "w"
    refine l_lstG fun h2 a g2 ha=>?_
    walk_at "w"
    exact hK _ _ ⟨g1.trans g2,_,rfl⟩
omit G in
theorem side_ok {cz:Cz} {cell m:Int} {t:TZ} {du:Nat} {u:Option V} (hQ:TP h Q (sideZ c ((m.fdiv 6).fmod 6) t du)):WS cz zTree_14 [some (.int cell),some (.int c),some (.int m),some t.v,some (.str du),u] h (kEnd Q) Q:=by
  unfold sideZ at hQ
  generalize hs:(m.fdiv 6).fmod 6 = s at *
  walk_at "w"
  rw [hs]
  refine b_if (PR:=TP h Q) hQ (fun q hQ=>?_) (fun q hQ=>?_)
  · walk_at "w"
    exact hQ _ .refl
  walk_at "w"
  refine b_if (PR:=TP h Q) hQ (fun q hQ=>?_) (fun q hQ=>?_)
  · walk_at "w"
    exact hQ _ .refl
  walk_at "w"
  refine b_if (PR:=TP h Q) hQ (fun q hQ=>?_) (fun q hQ=>?_)
  · walk_at "w"
    exact hQ _ .refl
  walk_at "w"
  refine b_if (PR:=TP h Q) hQ (fun q hQ=>?_) (fun q hQ=>?_)
  · walk_at "w"
    exact hQ _ .refl
  walk_at "w"
  refine b_ifc (PR:=TP h Q) (dand rfl) hQ (fun q hQ=>?_) (fun q hQ=>?_)
  · walk_at "w"
    exact hQ _ .refl
  walk_at "w"
  refine b_if (PR:=TP h Q) hQ (fun q hQ=>?_) (fun q hQ=>?_)
  · have e:seqAt [.str du,.str 36] (if decide (du = 68) = true then 1 else 0) = some (.str (if du = 68 then 36 else du)):=by
      by_cases z:du = 68
      · rw [if_pos z,if_pos (decide_eq_true z)]; rfl
      · rw [if_neg z,if_neg (fun y=>z (of_decide_eq_true y))]; rfl
    walk_at "w"
    refine l_lstG fun h2 a g2 ha=>?_
    walk_at "w"
    exact hQ _ g2
  walk_at "w"
  exact hQ _ .refl
theorem treeT_ok {cell:Int} (hQ:TP h Q (treeZ c cell)):callWp g (r + 4) 14 [.int cell,.int c] h Q X:=by
  refine enter (b:=zTree_0) (loc:=[some (.int cell),some (.int c),none,none,none,none]) G.f14 rfl rfl rfl rfl fun cz hc=>?_
  unfold treeZ at hQ
  dsimp only at hQ
  have e1:=int3_at (a:=4) (b:=-1) (c:=big20) (cell.fdiv 5)
  have e2:=int3_at (a:=c) (b:=-1) (c:=big20) (cell.fdiv 5)
  have e3:=tree3_at (a:=.num 1) (b:=.box 9) (c:=.call c (.num 0)) ((cell.fdiv 5).fdiv 3)
  walk_at "w"
  refine b_if (PR:=TP h Q) hQ (fun q hQ=>?_) (fun q hQ=>?_)
  · walk_at "w"
    refine l_lstG fun h2 a g2 ha=>?_
    have key:=side_ok (cz:=cz) (cell:=cell) (t:=.box _) (u:=none) (hQ.now g2)
    repeat (first | exact key | walk_at "s")
  walk_at "w"
  refine b_if (PR:=TP h Q) hQ (fun q hQ=>?_) (fun q hQ=>?_)
  · walk_at "w"
    refine l_lstG fun h2 a g2 ha=>?_
    have key:=side_ok (cz:=cz) (cell:=cell) (t:=.call _ (.box _)) (u:=none) (hQ.now g2)
    repeat (first | exact key | walk_at "s")
  walk_at "w"
  refine b_if (PR:=TP h Q) hQ (fun q hQ=>?_) (fun q hQ=>?_)
  · walk_at "w"
    refine l_lstG fun h2 a g2 ha=>?_
    walk_at "w"
    refine deepT_ok G (n:=6) rfl (by decide) fun h3 g3=>?_
    generalize deepZ (cell.fdiv 5) (pick3 (.num 1) (.box 9) (.call c (.num 0)) (((cell.fdiv 5).fdiv 3).fmod 3)) 6 = t at *
    have e4:=tree2_at (a:=t) (b:=.ari .add t (.box 9)) ((cell.fdiv 5).fdiv 9)
    walk_at "w"
    refine l_lstG fun h4 a g4 ha=>?_
    walk_at "w"
    exact hQ _ ((g2.trans g3).trans g4)
  walk_at "w"
  refine b_if (PR:=TP h Q) hQ (fun q hQ=>?_) (fun q hQ=>?_)
  · walk_at "w"
    refine deepT_ok G (t:=.num 1) (n:=5) rfl (by decide) fun h3 g3=>?_
    walk_at "w"
    exact hQ _ g3
  have key:=side_ok (cz:=cz) (cell:=cell) (t:=.call _ (.box _)) (u:=none) hQ
  repeat (first | exact key | walk_at "s")
end
end Mine
end
noncomputable section
namespace Mine
section
variable {P:Nat → List V → Prop}
theorem ZL.mk {s:SZ} {v:V} {b:BZ} {ws:List V} (r:ZS P s v) (t:ZL P b ws):ZL P (.cons s b) (v :: ws):=⟨v,ws,rfl,r,t⟩
theorem ZL.nil:ZL P .nil []:=rfl
theorem lt6c {k:Int} (h:0 ≤ k ∧ k < 6):k = 0 ∨ k = 1 ∨ k = 2 ∨ k = 3 ∨ k = 4 ∨ k = 5:=fmodc (m:=6) (P:=fun x=>x = 0 ∨ x = 1 ∨ x = 2 ∨ x = 3 ∨ x = 4 ∨ x = 5) h (by decide)
theorem row6_at {t:TZ} {x y z:Nat} {k:Int} (hk:0 ≤ k ∧ k < 6) (px:P x []) (py:P y []) (pz:P z []) :
    ∃ v,seqAt [.tup [.str 22,.int 3,t.v],.tup [.str 23,t.v],.tup [.str 37,t.v,.ref x,.ref y],.tup [.str 38,t.v,.ref z],.tup [.str 43,t.v],.tup [.str 31,t.v]] k = some v ∧ ZS P (st6 k t) v:=by
  rcases lt6c hk with e | e | e | e | e | e <;> subst e
  · exact ⟨_,rfl,rfl⟩
  · exact ⟨_,rfl,rfl⟩
  · exact ⟨_,rfl,x,y,rfl,⟨_,px,rfl⟩,⟨_,py,rfl⟩⟩
  · exact ⟨_,rfl,z,rfl,⟨_,pz,rfl⟩⟩
  · exact ⟨_,rfl,rfl⟩
  · exact ⟨_,rfl,rfl⟩
theorem lv_at (i:Int):∃ w,seqAt [.str 41,.str 42] (i.fmod 2) = some w ∧ ZS P (pick2 .leave .next (i.fmod 2)) (.tup [w]):=by
  rcases fmod2 (mod_in i (show (0:Int) < 2 by decide)) with e | e <;> rw [e] <;> exact ⟨_,rfl,rfl⟩
noncomputable def SZ.w:SZ → Nat
  | .set _ _=>22
  | .say _=>23
  | .give _=>43
  | .raise _=>31
  | .if_ _ _ _=>37
  | .loop _ _=>38
  | .catch _ _ _ _=>39
  | .end_ _ _=>40
  | .leave=>41
  | .next=>42
theorem ZS.hd:∀ {s:SZ} {v:V},ZS P s v → ∃ vs,v = .tup (.str s.w :: vs)
  | .set _ _,_,r=>⟨_,r⟩
  | .say _,_,r=>⟨_,r⟩
  | .give _,_,r=>⟨_,r⟩
  | .raise _,_,r=>⟨_,r⟩
  | .if_ _ _ _,_,⟨_,_,e,_⟩=>⟨_,e⟩
  | .loop _ _,_,⟨_,e,_⟩=>⟨_,e⟩
  | .catch _ _ _ _,_,⟨_,_,e,_⟩=>⟨_,e⟩
  | .end_ _ _,_,⟨_,_,e,_⟩=>⟨_,e⟩
  | .leave,_,r=>⟨_,r⟩
  | .next,_,r=>⟨_,r⟩
theorem SZ.w39 (s:SZ):decide (s.w = 39) = s.isCatch:=by cases s <;> rfl
theorem SZ.wIL (s:SZ):decide (s.w ∈ [37,38]) = s.isIL:=by cases s <;> rfl
end
noncomputable def SP' (h:Hp) (Q:KE) (p:SZ × Nat):Prop:=∀ h' v,Gr h h' → ZS (PH h') p.1 v → Q (.tup [v,.str p.2]) h'
noncomputable def AP (h:Hp) (Q:KE) (b:List SZ):Prop:=∀ h' a vs,Gr h h' → h'[a]? = some (.list vs) → ZL (PH h') (ofL b) vs → Q (.ref a) h'
theorem dtr (b:Bool):b = decide (b = true):=by cases b <;> rfl
theorem deq (a b:Nat):decide ((a:Int) = b) = decide (a = b):=decide_eq_decide.mpr Int.ofNat_inj
section
variable {g:Genv} (G:NG g) {r:Nat} {h:Hp} {Q:KE} {X:Nat → Hp → Prop} {c:Nat}
include G
theorem stZ_ok {cell other:Int} (hQ:SP' h Q (stZ c cell other)):callWp g (r + 6) 15 [.int cell,.int other,.int c] h Q X:=by
  refine enter (b:=zStatement_0) (loc:=[some (.int cell),some (.int other),some (.int c),none,none,none,none]) G.f15 rfl rfl rfl rfl fun cz hc=>?_
  have hQ:SP' h Q (stW (cell.fmod 9) (cell.fdiv 9) (treeZ c other)):=hQ
  have m9:=mod_in cell (show (0:Int) < 9 by decide)
  have e1:=int3_at (a:=4) (b:=-1) (c:=big20) (cell.fdiv 9)
  have e2:=int2_at (a:=4) (b:=-1) (cell.fdiv 9)
  walk_at "w"
  refine treeT_ok G (r:=r + 1) fun h1 g1=>?_
  generalize treeZ c other = t at *
  generalize cell.fmod 9 = k at *
  walk_at "w"
  refine b_if (PR:=SP' h Q) hQ (fun q hQ=>?_) (fun q hQ=>?_)
  · walk_at "w"
    refine l_lstG fun h2 x g2 hx=>?_
    walk_at "w"
    refine l_lstG fun h3 y g3 hy=>?_
    walk_at "w"
    refine l_lstG fun h4 z g4 hz=>?_
    walk_at "w"
    refine l_lstG fun h5 a g5 ha=>?_
    walk_at "w"
    refine l_lstG fun h6 a2 g6 ha2=>?_
    have ha:=g6 _ _ ha
    refine o_addG ha ha2 (Nat.le_of_ble_eq_true rfl) fun h7 a3 g7 ha3=>?_
    obtain ⟨v,ev,zv⟩:=row6_at (P:=PH h7) (t:=t.1) ⟨m9.1,q⟩ (((g3.trans g4).trans (g5.trans (g6.trans g7))).ph _ _ hx) ((g4.trans (g5.trans (g6.trans g7))).ph _ _ hy) ((g5.trans (g6.trans g7)).ph _ _ hz)
    walk_at "w"
    exact hQ _ _ ((g1.trans g2).trans ((g3.trans g4).trans (g5.trans (g6.trans g7)))) zv
  walk_at "w"
  refine b_if (PR:=SP' h Q) hQ (fun q hQ=>?_) (fun q hQ=>?_)
  · walk_at "w"
    refine l_lstG fun h2 x g2 hx=>?_
    walk_at "w"
    exact hQ _ _ (g1.trans g2) rfl
  walk_at "w"
  refine b_if (PR:=SP' h Q) hQ (fun q hQ=>?_) (fun q hQ=>?_)
  · walk_at "w"
    refine l_lstG fun h2 x g2 hx=>?_
    walk_at "w"
    refine l_lstG fun h3 y g3 hy=>?_
    walk_at "w"
    refine l_lstG fun h4 z g4 hz=>?_
    walk_at "w"
    exact hQ _ _ ((g1.trans g2).trans (g3.trans g4)) ⟨x,z,rfl,⟨_,(g3.trans g4).ph _ _ hx,.mk rfl .nil⟩,⟨_,hz,.mk rfl .nil⟩⟩
  · walk_at "w"
    refine l_lstG fun h2 x g2 hx=>?_
    obtain ⟨w,ew,zw⟩:=lv_at (P:=PH h2) (cell.fdiv 9)
    walk_at "w"
    exact hQ _ _ (g1.trans g2) zw
omit G in
theorem bes_ok {P:Nat → List V → Prop} (bad:Bool):ZL P (ofL (besideZ bad)) (repL [.tup [.str 22,.int 7,.tup [.str 35,.int 0]]] (if bad = true then (1:Int) else 0).toNat):=by
  cases bad with
  | true=>exact .mk rfl .nil
  | false=>exact .nil
omit G in
theorem bes_le (bad:Bool):(if bad = true then (1:Int) else 0).natAbs ≤ lim ∧ 1 * (if bad = true then (1:Int) else 0).toNat ≤ lim:=by cases bad <;> decide
theorem around_ok {a:Nat} {vs:List V} {b:List SZ} {w:Int} {bad:Bool} (ha:h[a]? = some (.list vs)) (rb:ZL (PH h) (ofL b) vs) (hQ:AP h Q (aroundZ b w bad)):callWp g (r + 2) 16 [.ref a,.int w,.bool bad] h Q X:=by
  refine enter (b:=zAround_0) (loc:=[some (.ref a),some (.int w),some (.bool bad),none]) G.f16 rfl rfl rfl rfl fun cz hc=>?_
  walk_at "w"
  refine l_lstG fun h1 x g1 hx=>?_
  walk_at "w"
  refine o_mulG hx (bes_le bad) fun h2 y g2 hy=>?_
  have gg:=g1.trans g2
  have ha:=gg _ _ ha
  have rb:=ZL.mono gg.ph _ _ rb
  have hQ:AP h2 Q (aroundZ b w bad):=fun h' a vs g'=>hQ h' a vs (gg.trans g')
  have rx:=bes_ok (P:=PH h2) bad
  clear hx g1 g2 gg
  unfold aroundZ at hQ
  generalize repL _ _ = ws at *
  walk_at "w"
  refine b_if (PR:=AP h2 Q) hQ (fun q hQ=>?_) (fun q hQ=>?_)
  · walk_at "w"
    exact l_lstG fun h3 z g3 hz=>hQ _ _ _ g3 hz (.mk ⟨a,y,rfl,⟨_,g3.ph _ _ ha,ZL.mono g3.ph _ _ rb⟩,⟨_,g3.ph _ _ hy,ZL.mono g3.ph _ _ rx⟩⟩ (.mk rfl .nil))
  walk_at "w"
  refine b_if (PR:=AP h2 Q) hQ (fun q hQ=>?_) (fun q hQ=>?_)
  · walk_at "w"
    refine l_lstG fun h3 z g3 hz=>?_
    walk_at "w"
    exact l_lstG fun h4 u g4 hu=>hQ _ _ _ (g3.trans g4) hu (.mk ⟨z,a,rfl,⟨_,g4.ph _ _ hz,.nil⟩,⟨_,(g3.trans g4).ph _ _ ha,ZL.mono (g3.trans g4).ph _ _ rb⟩⟩ .nil)
  walk_at "w"
  refine b_if (PR:=AP h2 Q) hQ (fun q hQ=>?_) (fun q hQ=>?_)
  · walk_at "w"
    exact l_lstG fun h3 z g3 hz=>hQ _ _ _ g3 hz (.mk rfl (.mk ⟨a,y,rfl,⟨_,g3.ph _ _ ha,ZL.mono g3.ph _ _ rb⟩,⟨_,g3.ph _ _ hy,ZL.mono g3.ph _ _ rx⟩⟩ (.mk rfl .nil)))
  walk_at "w"
  refine b_if (PR:=AP h2 Q) hQ (fun q hQ=>?_) (fun q hQ=>?_)
  · walk_at "w"
    refine l_lstG fun h3 z g3 hz=>?_
    walk_at "w"
    exact l_lstG fun h4 u g4 hu=>hQ _ _ _ (g3.trans g4) hu (.mk ⟨z,a,rfl,⟨_,g4.ph _ _ hz,.nil⟩,⟨_,(g3.trans g4).ph _ _ ha,ZL.mono (g3.trans g4).ph _ _ rb⟩⟩ .nil)
  walk_at "w"
  refine b_if (PR:=AP h2 Q) hQ (fun q hQ=>?_) (fun q hQ=>?_)
  · walk_at "w"
    exact l_lstG fun h3 z g3 hz=>hQ _ _ _ g3 hz (.mk ⟨a,y,rfl,⟨_,g3.ph _ _ ha,ZL.mono g3.ph _ _ rb⟩,⟨_,g3.ph _ _ hy,ZL.mono g3.ph _ _ rx⟩⟩ (.mk rfl .nil))
  walk_at "w"
  refine b_if (PR:=AP h2 Q) hQ (fun q hQ=>?_) (fun q hQ=>?_)
  · walk_at "w"
    refine l_lstG fun h3 z g3 hz=>?_
    walk_at "w"
    exact l_lstG fun h4 u g4 hu=>hQ _ _ _ (g3.trans g4) hu (.mk rfl (.mk ⟨z,a,rfl,⟨_,g4.ph _ _ hz,.nil⟩,⟨_,(g3.trans g4).ph _ _ ha,ZL.mono (g3.trans g4).ph _ _ rb⟩⟩ .nil))
  walk_at "w"
  exact l_lstG fun h3 z g3 hz=>hQ _ _ _ g3 hz (.mk ⟨a,rfl,⟨_,g3.ph _ _ ha,ZL.mono g3.ph _ _ rb⟩⟩ .nil)
theorem due_ok {P:Nat → List V → Prop} {s:SZ} {v:V} {d deep:Nat} {l:Bool} (zs:ZS P s v) (hQ:Q (.str (dueZ (s,d) deep l)) h):callWp g (r + 2) 17 [.tup [v,.str d],.int deep,.bool l] h Q X:=by
  obtain ⟨vs,rfl⟩:=zs.hd
  refine enter (b:=zDue_0) (loc:=[some (.tup [.tup (.str s.w :: vs),.str d]),some (.int deep),some (.bool l)]) G.f17 rfl rfl rfl rfl fun cz hc=>?_
  unfold dueZ at hQ
  have e7:decide ((deep:Int) = 7) = decide (deep = 7):=deq deep 7
  walk_at "w"
  rw [e7,SZ.w39]
  refine b_ifc (PR:=fun z=>Q (.str z) h) (by rw [Bool.decide_and]; exact congrArg (_ && ·) (dtr _)) hQ (fun q hQ=>?_) (fun q hQ=>?_)
  · walk_at "w"
    exact hQ
  walk_at "w"
  refine b_ifc (PR:=fun z=>Q (.str z) h) (by rw [Bool.decide_and]; exact congrArg (_ && ·) (dtr _)) hQ (fun q hQ=>?_) (fun q hQ=>?_)
  · walk_at "w"
    exact hQ
  walk_at "w"
  refine b_ifc (PR:=fun z=>Q (.str z) h) (by rw [e7,Bool.decide_and,Bool.decide_and]; exact congrArg (fun z=>_ && (_ && z)) ((SZ.wIL s).trans (dtr _))) hQ (fun q hQ=>?_) (fun q hQ=>?_)
  · walk_at "w"
    exact hQ
  walk_at "w"
  exact hQ
end
end Mine
end
noncomputable section
namespace Mine
section
variable {P:Nat → List V → Prop}
theorem ZL.takeL:∀ (n:Nat) (xs:List SZ) (vs:List V),ZL P (ofL xs) vs → ZL P (ofL (xs.take n)) (vs.take n)
  | 0,xs,vs,r=>rfl
  | n + 1,[],vs,r=>by cases r; rfl
  | n + 1,x :: xs,vs,r=>by
    obtain ⟨v,ws,rfl,r,t⟩:=r
    exact .mk r (ZL.takeL n xs ws t)
theorem ZL.dropL:∀ (n:Nat) (xs:List SZ) (vs:List V),ZL P (ofL xs) vs → ZL P (ofL (xs.drop n)) (vs.drop n)
  | 0,xs,vs,r=>r
  | n + 1,[],vs,r=>by cases r; rfl
  | n + 1,x :: xs,vs,r=>by
    obtain ⟨v,ws,rfl,r,t⟩:=r
    exact ZL.dropL n xs ws t
theorem ZL.appL {ys:List SZ} {us:List V} (q:ZL P (ofL ys) us):∀ (xs:List SZ) (vs:List V),ZL P (ofL xs) vs → ZL P (ofL (xs ++ ys)) (vs ++ us)
  | [],vs,r=>by cases r; exact q
  | x :: xs,vs,r=>by
    obtain ⟨v,ws,rfl,r,t⟩:=r
    exact .mk r (ZL.appL q xs ws t)
theorem ZL.repL {xs:List SZ} {vs:List V} (r:ZL P (ofL xs) vs):∀ n,ZL P (ofL (repZ xs n)) (Mine.repL vs n)
  | 0=>rfl
  | n + 1=>ZL.appL (ZL.repL r n) _ _ r
theorem ZL.len:∀ (xs:List SZ) (vs:List V),ZL P (ofL xs) vs → vs.length = xs.length
  | [],vs,r=>by cases r; rfl
  | x :: xs,vs,r=>by
    obtain ⟨v,ws,rfl,r,t⟩:=r
    exact congrArg (· + 1) (ZL.len xs ws t)
noncomputable def ZPL (P:Nat → List V → Prop) (ls:List (List SZ)) (as:List Nat):Prop:=ZP P (ls.map ofL) as
theorem ZPL.set {b:List SZ} {a:Nat} (r:ZB P (ofL b) a):∀ (ls:List (List SZ)) (i:Nat) (as:List Nat),ZPL P ls as → ZPL P (ls.set i b) (as.set i a)
  | [],i,as,z=>by cases z; exact (rfl:([]:List Nat) = [])
  | l :: ls,0,as,z=>by
    obtain ⟨x,xs,rfl,q,t⟩:=z
    exact ⟨a,xs,rfl,r,t⟩
  | l :: ls,i + 1,as,z=>by
    obtain ⟨x,xs,rfl,q,t⟩:=z
    exact ⟨x,_,rfl,q,ZPL.set r ls i xs t⟩
theorem ZPL.rep {b:List SZ} {vs:List V} (rv:ZL P (ofL b) vs):∀ (n:Nat) (as:List Nat),as.length = n → (∀ a ∈ as,P a vs) → ZPL P (List.replicate n b) as
  | 0,[],_,_=>(rfl:([]:List Nat) = [])
  | n + 1,a :: as,h,r=>⟨a,as,rfl,⟨vs,r a (.head _),rv⟩,ZPL.rep rv n as (Nat.succ.inj h) fun x hx=>r x (.tail _ hx)⟩
  | 0,_ :: _,h,_=>nomatch h
  | _ + 1,[],h,_=>nomatch h
end
theorem repL_len (xs:List V):∀ n,(repL xs n).length = xs.length * n
  | 0=>rfl
  | n + 1=>by
    show (xs ++ repL xs n).length = _
    rw [List.length_append,repL_len xs n,Nat.mul_succ,Nat.add_comm]
theorem bndF (x:Int) {m:Int} (h:0 < m):bnd (.int (x.fmod m)) = some (some (x.fmod m).toNat):=if_pos (mod_in x h).1
theorem allInt_map:∀ xs:List Int,allInt (xs.map V.int) = some xs
  | []=>rfl
  | x :: xs=>by
    show (allInt (xs.map V.int)).map (x :: ·) = _
    rw [allInt_map xs]; rfl
theorem in_ints {h:Hp} {a:Nat} {xs:List Int} (ha:h[a]? = some (iL xs)) (i:Int):cmpop .in_ (.int i) (.ref a) h = some (xs.any (· == i)):=by
  have e:decide (i ∈ xs) = xs.any (· == i):=by
    rw [Bool.eq_iff_iff,decide_eq_true_iff,List.any_eq_true]
    exact ⟨fun z=>⟨i,z,beq_self_eq_true i⟩,fun ⟨x,z,q⟩=>(eq_of_beq q) ▸ z⟩
  show (seqOf (.ref a) h).bind (inS (.int i)) = _
  rw [show seqOf (.ref a) h = some (xs.map V.int) by show (h[a]?).bind _ = _; rw [ha]; rfl]
  show (allInt (xs.map V.int)).map _ = _
  rw [allInt_map,← e]; rfl
theorem int_at {xs:List Int} {k:Nat} (h:k < xs.length):seqAt (xs.map V.int) (k:Int) = some (.int (xs.getD k 0)):=by
  rw [seqAt_nat (Int.natCast_nonneg _),Int.toNat_natCast,List.getElem?_map,List.getD_eq_getElem?_getD,List.getElem?_eq_getElem h]; rfl
noncomputable abbrev gbV:List V:=[.tup [.str 43,.tup [.str 36,.int 0]]]
noncomputable abbrev gdV:List V:=[.tup [.str 23,.tup [.str 35,.int 5]],.tup [.str 43,.tup [.str 36,.int 3]]]
theorem gb_go {c:Cz} {Z:List V → Hp → Prop}:∀ (n:Nat) (lo:Int) (xs:List Nat) (l:Locs) (h:Hp),l.length = 2 → (∀ x ∈ xs,PH h x gbV) → xs.length + n ≤ 100 → (∀ (h':Hp) (ys:List Nat),ys.length = xs.length + n → Gr h h' → (∀ x ∈ ys,PH h' x gbV) → Z (ys.map V.ref) h') →
    compWp (fun zz=>True) (cStep c [1] [] (.lst [(.tup [(.str 43),(.tup [(.str 36),(.int 0)])])])) (rangeL lo n) l (xs.map V.ref) h Z
  | 0=>fun lo xs l h hl w hn k=>⟨trivial,k h xs rfl .refl w⟩
  | n + 1=>fun lo xs l h hl w hn k=>by
    refine ⟨trivial,onS (a:=l.set 1 (some (.int lo))) (if_pos (by rw [hl]; decide)) ?_⟩
    refine ⟨by rw [List.length_append,List.length_map]; exact nlt (nlt (Nat.add_le_add_left (Nat.succ_le_succ (Nat.zero_le n)) _) hn) (by decide),?_⟩
    have e:xs.map V.ref ++ [V.ref h.length] = (xs ++ [h.length]).map V.ref:=by rw [List.map_append]; rfl
    show compWp _ _ _ _ (xs.map V.ref ++ [V.ref h.length]) (h ++ [.list gbV]) _
    rw [e]
    have el:(xs ++ [h.length]).length = xs.length + 1:=List.length_append
    have g1:Gr h (h ++ [.list gbV]):=.app _
    refine gb_go n (lo + 1) (xs ++ [h.length]) _ _ (by rw [List.length_set]; exact hl) (fun x hx=>?_) (by rw [el]; exact nlt (Nat.le_of_eq (Nat.succ_add_eq_add_succ ..)) hn) fun h' ys hy g' w'=>k h' ys (by rw [hy,el]; exact Nat.succ_add_eq_add_succ ..) (g1.trans g') w'
    rcases List.mem_append.mp hx with q | q
    · exact g1.ph _ _ (w x q)
    · rw [List.mem_singleton.mp q]; exact at_end
end Mine
end
noncomputable section
namespace Mine
noncomputable abbrev lastV:List V:=[.tup [.str 23,.tup [.str 35,.int 0]],.tup [.str 22,.int 7,.tup [.str 35,.int 0]]]
theorem l_lstE {Q:KE} {vs:List V} {h:Hp} (k:Q (.ref h.length) (h ++ [.list vs])):kLst Q vs h:=k
section
variable {g:Genv} (G:NG g) {r:Nat} {h:Hp} {Q:KE} {X:Nat → Hp → Prop} {ns:List Int} {sa:Nat}
include G
theorem lay_ok {cz:Cz} {ce:Nat → Int} {one oth u6 u11:Option V} {wa ga a du:Nat} {vs:List V} (hz:Is cz g (r + 5) X) (ha:h[a]? = some (.list vs)) (rb:ZL (PH h) (ofL (finZ ce).1) vs) (hd:du = (finZ ce).2)
    (hQ:∀ h' pa as,Gr h h' → h'[pa]? = some (.list (as.map V.ref)) → ZPL (PH h') (progL ce) as → Q (.tup [.ref pa,.str (progD ce)]) h') :
    WS cz zProgram_19 [some (.ref sa),some (.int (firstZ ce)),some (.int (cntZ ce)),one,oth,some (.int (deepN ce)),u6,some (.ref wa),some (.ref ga),some (.ref a),some (.str du),u11,none,none] h (kEnd Q) Q:=by
  have c1:=cnt_ok (cell:=ce)
  have ia:=at_ok (cell:=ce)
  have ea:((firstZ ce).fdiv 72).fmod (cntZ ce) = (atZ ce:Int):=(fm_lt ((firstZ ce).fdiv 72) c1.1).2.symm
  unfold progL progD moreZ at hQ
  generalize finZ ce = fin at *
  generalize cntZ ce = n at *
  generalize atZ ce = i at *
  generalize firstZ ce = f at *
  subst hd
  walk_at "w"
  refine o_bind (bin_mod _ _ _ (Int.ne_of_gt (Int.natCast_pos.mpr c1.1))) ?_
  rw [ea]
  walk_at "w"
  refine onS (it_range ⟨Int.le_trans (by decide) (Int.natCast_nonneg n),Int.ofNat_le.mpr (nlt c1.2 (by decide))⟩) (onS (a:=[none,none]) rfl ?_)
  rw [Int.toNat_natCast]
  refine gb_go n 0 [] _ h rfl (fun x hx=>nomatch hx) (nlt (Nat.le_of_eq (Nat.zero_add _)) (nlt c1.2 (by decide))) fun h1 ys hy g1 w1=>?_
  rw [List.length_nil,Nat.zero_add] at hy
  have ha:=g1 _ _ ha
  have rb:=ZL.mono g1.ph _ _ rb
  have hp:(h1 ++ [O.list (ys.map V.ref)])[h1.length]? = some (.list (ys.map V.ref)):=at_end
  have hi:0 ≤ (i:Int) ∧ (i:Int) < ((ys.map V.ref).length:Int):=⟨Int.natCast_nonneg _,by rw [List.length_map,hy]; exact Int.ofNat_lt.mpr ia⟩
  walk_at "w"
  refine t_l hp hi ?_
  rw [Int.toNat_natCast,← List.map_set,show (h1 ++ [O.list (ys.map V.ref)]).set h1.length (.list ((ys.set i a).map V.ref)) = h1 ++ [.list ((ys.set i a).map V.ref)] by rw [List.set_append_right _ _ (Nat.le_refl _),Nat.sub_self]; rfl]
  have z1:ZPL (PH h1) ((List.replicate n gbZ).set i fin.1) (ys.set i a):=ZPL.set ⟨vs,ha,rb⟩ _ _ _ (ZPL.rep (b:=gbZ) (vs:=gbV) (.mk rfl .nil) n ys hy w1)
  have hl:(ys.set i a).length = n:=by rw [List.length_set]; exact hy
  generalize ys.set i a = zs at *
  have g2:Gr h1 (h1 ++ [O.list (zs.map V.ref)]):=.app _
  clear hp hi
  have em:(decide ((f.fdiv 288).fmod 3 = 1) && decide ((i:Int) + 1 < (n:Int))) = (decide ((f.fdiv 288).fmod 3 = 1) && decide (i + 1 < n)):=congrArg (_ && ·) (dlt (i + 1) n)
  walk_at "w"
  rw [em]
  generalize (decide ((f.fdiv 288).fmod 3 = 1) && decide (i + 1 < n)) = more at *
  cases more with
  | false=>
    refine b_f rfl ?_
    walk_at "w"
    exact hQ _ _ zs (g1.trans g2) at_end (ZP.mono g2.ph _ _ z1)
  | true=>
    refine b_t rfl ?_
    have hQ:∀ h' pa as,Gr h h' → h'[pa]? = some (.list (as.map V.ref)) → ZPL (PH h') (((List.replicate n gbZ).set i fin.1).set (n - 1) lastZ) as → Q (.tup [.ref pa,.str (if fin.2 = 68 then 36 else fin.2)]) h':=hQ
    walk_at "w"
    refine l_lstE ?_
    generalize hla:(h1 ++ [O.list (zs.map V.ref)]).length = la
    have la2:∀ x:O,(h1 ++ [x]).length = la:=fun x=>by rw [← hla,List.length_append,List.length_append]; rfl
    have en:(n:Int) - 1 = ((n - 1:Nat):Int):=(Int.ofNat_sub c1.1).symm
    have hp:(h1 ++ [O.list (zs.map V.ref)] ++ [O.list lastV])[h1.length]? = some (.list (zs.map V.ref)):=Gr.app _ _ _ at_end
    have hi:0 ≤ ((n - 1:Nat):Int) ∧ ((n - 1:Nat):Int) < ((zs.map V.ref).length:Int):=⟨Int.natCast_nonneg _,by rw [List.length_map,hl]; exact Int.ofNat_lt.mpr (Nat.sub_lt c1.1 Nat.one_pos)⟩
    walk_at "w"
    rw [en]
    refine t_l hp hi ?_
    rw [Int.toNat_natCast,← List.map_set]
    have es:∀ o:O,(h1 ++ [O.list (zs.map V.ref)] ++ [O.list lastV]).set h1.length o = h1 ++ [o] ++ [.list lastV]:=fun o=>by
      rw [List.append_assoc,List.set_append_right _ _ (Nat.le_refl _),Nat.sub_self,List.append_assoc]; rfl
    rw [es]
    have g3:Gr h1 (h1 ++ [O.list ((zs.set (n - 1) la).map V.ref)] ++ [.list lastV]):=(Gr.app _).trans (.app _)
    have hq:=hQ _ h1.length (zs.set (n - 1) la) (g1.trans g3) (Gr.app _ _ _ at_end) (ZPL.set ⟨lastV,?_,ZL.mk (s:=.say (.num 0)) rfl (ZL.mk (s:=.set 7 (.num 0)) rfl .nil)⟩ _ _ _ (ZP.mono g3.ph _ _ z1))
    · generalize h1 ++ [O.list ((zs.set (n - 1) la).map V.ref)] ++ [.list lastV] = h3 at *
      clear es hp hi hQ
      walk_at "w"
      refine b_if (PR:=fun z=>Q (.tup [.ref h1.length,.str z]) h3) hq (fun q hq=>?_) (fun q hq=>?_)
      · walk_at "w"
        exact hq
      · walk_at "w"
        exact hq
    · show (h1 ++ [O.list ((zs.set (n - 1) la).map V.ref)] ++ [O.list lastV])[la]? = _
      generalize O.list ((zs.set (n - 1) la).map V.ref) = x
      rw [← la2 x]
      exact at_end
omit G in
theorem in3 (w:Int):inW w = decide (w ∈ [0,2,4]):=by
  unfold inW
  exact decide_eq_decide.mpr (by simp only [List.mem_cons,List.not_mem_nil,or_false])
theorem wrap_ok {cz:Cz} {K:KS} {f c dp one oth ga u11:Option V} {p:List SZ × Nat} {ways:List Int} {wa a k:Nat} {vs:List V} (hz:Is cz g (r + 5) X) (hk:k < ways.length) (hs:h[sa]? = some (.flist (ns.map .int))) (hw:h[wa]? = some (iL ways)) (ha:h[a]? = some (.list vs)) (rb:ZL (PH h) (ofL p.1) vs)
    (hK:∀ h2 a2 vs2 d,Gr h h2 → h2[a2]? = some (.list vs2) → ZL (PH h2) (ofL (aroundZ p.1 (ways.getD k 0) (badZ (cellAt ns) k))) vs2 → (if p.2 = 68 ∧ badZ (cellAt ns) k = true ∧ inW (ways.getD k 0) = true then 36 else p.2) = d → K [some (.ref sa),f,c,one,oth,dp,some (.int k),some (.ref wa),ga,some (.ref a2),some (.str d),some (.bool (badZ (cellAt ns) k)),none,none] h2) :
    WS cz zProgram_15 [some (.ref sa),f,c,one,oth,dp,some (.int k),some (.ref wa),ga,some (.ref a),some (.str p.2),u11,none,none] h K Q:=by
  have hw1:h[wa]? = some (.list (ways.map V.int)):=hw
  have ew:=int_at hk
  obtain ⟨b,d⟩:=p
  unfold badZ at hK
  walk_at "w"
  rw [show (14:Int) + (k:Int) = ((14 + k:Nat):Int) from rfl]
  refine cellAt_ok G.f12 (14 + k) hs ?_
  generalize cellAt ns (14 + k) = ce at *
  generalize ways.getD k 0 = w at *
  walk_at "w"
  generalize decide (ce.fmod 5 = 1) = bad at *
  refine around_ok G (b:=b) ha rb fun h2 a2 vs2 g2 ha2 rb2=>?_
  have fin:=fun d=>hK h2 a2 vs2 d g2 ha2 rb2
  have hw2:=g2 _ _ hw1
  dsimp only at fin
  clear hK
  rw [in3] at fin
  walk_at "w"
  refine b_d (fun q=>?_) (fun q=>?_)
  · subst q
    walk_at "w"
    cases bad with
    | false=>
      walk_at "w"
      exact fin _ (if_neg fun z=>nomatch z.2.1)
    | true=>
      walk_at "w"
      refine b_d (p:=w ∈ [0,2,4]) (fun q=>?_) (fun q=>?_)
      · walk_at "w"
        exact fin _ (if_pos ⟨rfl,rfl,decide_eq_true q⟩)
      · walk_at "w"
        exact fin _ (if_neg fun z=>q (of_decide_eq_true z.2.2))
  · walk_at "w"
    exact fin _ (if_neg fun z=>q z.1)
theorem wraps_ok {cz:Cz} {one oth u11:Option V} {wa ga a:Nat} {vs:List V} (hz:Is cz g (r + 5) X) (hs:h[sa]? = some (.flist (ns.map .int))) (hw:h[wa]? = some (iL (waysZ (cellAt ns)))) (ha:h[a]? = some (.list vs)) (rb:ZL (PH h) (ofL (blk0Z (cellAt ns))) vs)
    (hQ:∀ h' pa as,Gr h h' → h'[pa]? = some (.list (as.map V.ref)) → ZPL (PH h') (progL (cellAt ns)) as → Q (.tup [.ref pa,.str (progD (cellAt ns))]) h') :
    WS cz zProgram_14 [some (.ref sa),some (.int (firstZ (cellAt ns))),some (.int (cntZ (cellAt ns))),one,oth,some (.int (deepN (cellAt ns))),none,some (.ref wa),some (.ref ga),some (.ref a),some (.str (due0Z (cellAt ns))),u11,none,none] h (kEnd Q) Q:=by
  walk_at "w"
  refine f_ran ⟨Int.le_trans (by decide) (Int.natCast_nonneg _),Int.ofNat_le.mpr (nlt deep_ok (by decide))⟩ (fun k l h'=>∃ (a:Nat) (vs:List V) (u6 u11:Option V),l = [some (.ref sa),some (.int (firstZ (cellAt ns))),some (.int (cntZ (cellAt ns))),one,oth,some (.int (deepN (cellAt ns))),u6,some (.ref wa),some (.ref ga),some (.ref a),some (.str (wrapZ (waysZ (cellAt ns)) (badZ (cellAt ns)) (blk0Z (cellAt ns)) (due0Z (cellAt ns)) k).2),u11,none,none] ∧ Gr h h' ∧ h'[a]? = some (.list vs) ∧ ZL (PH h') (ofL (wrapZ (waysZ (cellAt ns)) (badZ (cellAt ns)) (blk0Z (cellAt ns)) (due0Z (cellAt ns)) k).1) vs)
    ⟨a,vs,none,u11,rfl,.refl,ha,rb⟩ ?_ ?_
  · rintro l h' ⟨a,vs,u6,u11,rfl,g1,ha,rb⟩
    rw [Int.toNat_natCast] at *
    exact lay_ok G hz ha rb rfl fun h' pa as g2=>hQ h' pa as (g1.trans g2)
  · rintro k l h' K hk ⟨a,vs,u6,u11,rfl,g1,ha,rb⟩ hK
    rw [Int.toNat_natCast] at hk
    refine ⟨_,rfl,?_⟩
    refine wrap_ok G hz (by rw [ways_len]; exact hk) (g1 _ _ hs) (g1 _ _ hw) ha rb fun h2 a2 vs2 d g2 ha2 rb2 e=>?_
    subst e
    exact hK _ _ ⟨_,_,_,_,rfl,g1.trans g2,ha2,rb2⟩
end
end Mine
end
noncomputable section
namespace Mine
theorem pick_le (i:Int):(pick3 (1:Int) 1 30 i).natAbs ≤ 30 ∧ (pick3 (1:Int) 1 30 i).toNat ≤ 30 ∧ ((pick3 (1:Nat) 1 30 i:Nat)) = (pick3 (1:Int) 1 30 i).toNat:=by
  unfold pick3
  by_cases q:i = 0
  · rw [if_pos q,if_pos q]; decide
  · rw [if_neg q,if_neg q]
    by_cases q:i = 1
    · rw [if_pos q,if_pos q]; decide
    · rw [if_neg q,if_neg q]; decide
theorem le_lim {a b c d:Nat} (h:a ≤ c) (k:b ≤ d) (l:Nat.ble (c + d) 1000 = true):a + b ≤ lim:=nlt (Nat.add_le_add h k) (nlt (Nat.le_of_ble_eq_true l) (by decide))
section
variable {g:Genv} (G:NG g) {r:Nat} {h:Hp} {Q:KE} {X:Nat → Hp → Prop} {ns:List Int} {sa:Nat}
include G
theorem dues_ok {cz:Cz} {wa ga a:Nat} {vs:List V} {v1 v2:V} (hz:Is cz g (r + 5) X) (hs:h[sa]? = some (.flist (ns.map .int))) (hw:h[wa]? = some (iL (waysZ (cellAt ns)))) (z1:ZS (PH h) (oneZ (cellAt ns)).1 v1) (z2:ZS (PH h) (othZ (cellAt ns)).1 v2) (ha:h[a]? = some (.list vs)) (rb:ZL (PH h) (ofL (blk0Z (cellAt ns))) vs)
    (hQ:∀ h' pa as,Gr h h' → h'[pa]? = some (.list (as.map V.ref)) → ZPL (PH h') (progL (cellAt ns)) as → Q (.tup [.ref pa,.str (progD (cellAt ns))]) h') :
    WS cz zProgram_9 [some (.ref sa),some (.int (firstZ (cellAt ns))),some (.int (cntZ (cellAt ns))),some (.tup [v1,.str (oneZ (cellAt ns)).2]),some (.tup [v2,.str (othZ (cellAt ns)).2]),some (.int (deepN (cellAt ns))),none,some (.ref wa),some (.ref ga),some (.ref a),none,none,none,none] h (kEnd Q) Q:=by
  have key:=wraps_ok G (one:=some (.tup [v1,.str (oneZ (cellAt ns)).2])) (oth:=some (.tup [v2,.str (othZ (cellAt ns)).2])) (u11:=none) (ga:=ga) hz hs hw ha rb hQ
  clear hQ ha rb
  unfold due0Z at key
  generalize oneZ (cellAt ns) = one at *
  generalize othZ (cellAt ns) = oth at *
  generalize firstZ (cellAt ns) = f at *
  generalize cntZ (cellAt ns) = n at *
  generalize deepN (cellAt ns) = dp at *
  generalize waysZ (cellAt ns) = ways at *
  have hw6:cmpop .in_ (.int 6) (.ref wa) h = some (lpZ ways 0):=in_ints hw 6
  generalize lpZ ways 0 = lp at *
  obtain ⟨one,d1⟩:=one
  obtain ⟨oth,d2⟩:=oth
  walk_at "w"
  refine b_ifc (PR:=fun z=>WS cz zProgram_14 [some (.ref sa),some (.int f),some (.int n),some (.tup [v1,.str d1]),some (.tup [v2,.str d2]),some (.int dp),none,some (.ref wa),some (.ref ga),some (.ref a),some (.str z),none,none,none] h (kEnd Q) Q) (dlt dp 8) key (fun q key=>?_) (fun q key=>?_)
  rotate_left
  · repeat (first | exact key | walk_at "s")
  walk_at "w"
  refine o_cmpd hw6 ?_
  walk_at "w"
  refine due_ok G z1 ?_
  walk_at "w"
  refine b_if (PR:=fun z=>WS cz zProgram_14 [some (.ref sa),some (.int f),some (.int n),some (.tup [v1,.str d1]),some (.tup [v2,.str d2]),some (.int dp),none,some (.ref wa),some (.ref ga),some (.ref a),some (.str z),none,none,none] h (kEnd Q) Q) key (fun q key=>?_) (fun q key=>?_)
  rotate_left
  · repeat (first | exact key | walk_at "s")
  walk_at "w"
  refine o_cmpd hw6 ?_
  walk_at "w"
  refine due_ok G z2 ?_
  repeat (first | exact key | walk_at "s")
theorem prog_ok (hs:h[sa]? = some (.flist (ns.map .int))) (hQ:∀ h' pa as,Gr h h' → h'[pa]? = some (.list (as.map V.ref)) → ZPL (PH h') (progL (cellAt ns)) as → Q (.tup [.ref pa,.str (progD (cellAt ns))]) h'):callWp g (r + 7) 18 [.ref sa] h Q X:=by
  refine enter (b:=zProgram_0) (loc:=[some (.ref sa),none,none,none,none,none,none,none,none,none,none,none,none,none]) G.f18 rfl rfl rfl rfl fun cz hz=>?_
  have ec:1 + (firstZ (cellAt ns)).fmod 4 = ((cntZ (cellAt ns):Nat):Int):=(congrArg (1 + ·) (fm_lt (firstZ (cellAt ns)) (n:=4) (by decide)).2.symm).trans (Int.add_comm ..)
  have ed:(cellAt ns 5).fmod 9 = ((deepN (cellAt ns):Nat):Int):=(fm_lt (cellAt ns 5) (n:=9) (by decide)).2.symm
  walk_at "w"
  refine cellAt_ok G.f12 0 hs ?_
  walk_at "w"
  rw [show (cellAt ns 0 * 48271).fmod 1000003 = firstZ (cellAt ns) from rfl,ec]
  have e3:=int3_at (a:=1) (b:=1) (c:=30) ((firstZ (cellAt ns)).fdiv 864)
  refine cellAt_ok G.f12 1 hs ?_
  walk_at "w"
  refine cellAt_ok G.f12 2 hs ?_
  walk_at "w"
  refine stZ_ok G fun h1 v1 g1 z1=>?_
  have hs1:=g1 _ _ hs
  walk_at "w"
  refine cellAt_ok G.f12 3 hs1 ?_
  walk_at "w"
  refine cellAt_ok G.f12 4 hs1 ?_
  walk_at "w"
  refine stZ_ok G fun h2 v2 g2 z2=>?_
  have z1:=ZS.mono g2.ph _ _ z1
  have hs2:=g2 _ _ hs1
  walk_at "w"
  refine cellAt_ok G.f12 5 hs2 ?_
  walk_at "w"
  rw [ed]
  refine c_ran (l0:=[none,none,some (.ref sa)]) ⟨Int.le_trans (by decide) (Int.natCast_nonneg _),Int.ofNat_le.mpr (nlt deep_ok (by decide))⟩ rfl (fun k acc l h'=>h' = h2 ∧ (∃ u,l = [none,u,some (.ref sa)]) ∧ acc = ((List.range k).map fun k=>.int ((cellAt ns (6 + k)).fmod 7))) ⟨rfl,⟨_,rfl⟩,rfl⟩ ?_ ?_
  rotate_left
  · rintro k acc l h' K hk ⟨rfl,⟨u,rfl⟩,rfl⟩ hK
    refine ⟨_,rfl,w_nil ?_⟩
    rw [Int.toNat_natCast] at hk
    walk_at "w"
    rw [show (6:Int) + (k:Int) = ((6 + k:Nat):Int) from rfl]
    refine cellAt_ok G.f12 (6 + k) hs2 ?_
    walk_at "w"
    refine hK _ _ _ ?_ ⟨rfl,⟨_,rfl⟩,?_⟩
    · rw [List.length_append,List.length_map,List.length_range]
      exact le_lim (nlt (Nat.le_of_lt hk) deep_ok) (Nat.le_refl 1) rfl
    · rw [List.range_succ,List.map_append]; rfl
  rintro acc l h' ⟨rfl,_,rfl⟩
  rw [Int.toNat_natCast]
  have g3:Gr h' (h' ++ [O.list ((List.range (deepN (cellAt ns))).map fun k=>.int ((cellAt ns (6 + k)).fmod 7))]):=.app _
  have hw:(h' ++ [O.list ((List.range (deepN (cellAt ns))).map fun k=>.int ((cellAt ns (6 + k)).fmod 7))])[h'.length]? = some (iL (waysZ (cellAt ns))):=by
    unfold waysZ iL
    rw [List.map_map]
    exact at_end
  generalize h' ++ [O.list ((List.range (deepN (cellAt ns))).map fun k=>.int ((cellAt ns (6 + k)).fmod 7))] = h3 at *
  generalize h'.length = wa at *
  have z1:=ZS.mono g3.ph _ _ z1
  have z2:=ZS.mono g3.ph _ _ z2
  have hs:=g3 _ _ hs2
  have hQ:∀ h' pa as,Gr h3 h' → h'[pa]? = some (.list (as.map V.ref)) → ZPL (PH h') (progL (cellAt ns)) as → Q (.tup [.ref pa,.str (progD (cellAt ns))]) h':=fun h' pa as g'=>hQ h' pa as ((g1.trans g2).trans (g3.trans g'))
  clear hs1 hs2 g1 g2 g3
  have p1:=pick_le (((firstZ (cellAt ns)).fdiv 864).fmod 3)
  have b1:=bndF ((firstZ (cellAt ns)).fdiv 4) (show (0:Int) < 3 by decide)
  have b2:=bndF ((firstZ (cellAt ns)).fdiv 12) (show (0:Int) < 3 by decide)
  have b3:=bndF ((firstZ (cellAt ns)).fdiv 36) (show (0:Int) < 2 by decide)
  walk_at "w"
  refine l_lstG fun h4 ga g4 hg=>?_
  walk_at "w"
  refine o_slcG hg rfl b1 fun h5 x5 g5 k5=>?_
  walk_at "w"
  refine l_lstG fun h6 x6 g6 k6=>?_
  have k5:=g6 _ _ k5
  walk_at "w"
  have l2:∀ n,(cut gdV none (some n)).length ≤ 2:=fun n=>List.length_take_le' ..
  have l3:∀ n,(cut gdV (some n) none).length ≤ 2:=fun n=>nlt (Nat.le_of_eq (List.length_drop ..)) (Nat.sub_le _ _)
  have l1:(repL (cut gdV none (some (((firstZ (cellAt ns)).fdiv 4).fmod 3).toNat)) (pick3 (1:Int) 1 30 (((firstZ (cellAt ns)).fdiv 864).fmod 3)).toNat).length ≤ 60:=by
    rw [repL_len]; exact Nat.mul_le_mul (l2 _) p1.2.1
  refine o_mulG k5 ⟨nlt p1.1 (by decide),nlt (Nat.mul_le_mul (l2 _) p1.2.1) (by decide)⟩ fun h7 x7 g7 k7=>?_
  walk_at "w"
  refine l_lstG fun h8 x8 g8 k8=>?_
  have k7:=g8 _ _ k7
  refine o_addG k7 k8 (le_lim l1 (Nat.le_refl 1) rfl) fun h9 x9 g9 k9=>?_
  have hg9:=(g5.trans (g6.trans (g7.trans (g8.trans g9)))) _ _ hg
  walk_at "w"
  refine o_slcG hg9 b2 rfl fun h10 x10 g10 k10=>?_
  have k9:=g10 _ _ k9
  have la:∀ {xs ys:List V} {m n:Nat},xs.length ≤ m → ys.length ≤ n → (xs ++ ys).length ≤ m + n:=fun a b=>nlt (Nat.le_of_eq List.length_append) (Nat.add_le_add a b)
  have l4:=la l1 (Nat.le_refl ([v1]:List V).length)
  refine o_addG k9 k10 (le_lim l4 (l3 _) rfl) fun h11 x11 g11 k11=>?_
  have l5:=la l4 (l3 (((firstZ (cellAt ns)).fdiv 12).fmod 3).toNat)
  walk_at "w"
  refine l_lstG fun h12 x12 g12 k12=>?_
  have k11:=g12 _ _ k11
  refine o_addG k11 k12 (le_lim l5 (Nat.le_refl 1) rfl) fun h13 x13 g13 k13=>?_
  have l6:=la l5 (Nat.le_refl ([v2]:List V).length)
  have hg13:=(g10.trans (g11.trans (g12.trans g13))) _ _ hg9
  walk_at "w"
  refine o_slcG hg13 rfl b3 fun h14 x14 g14 k14=>?_
  have k13:=g14 _ _ k13
  refine o_addG k13 k14 (le_lim l6 (l2 _) rfl) fun h15 x15 g15 k15=>?_
  rw [← p1.2.2] at k15
  have gg:=(g4.trans (g5.trans (g6.trans (g7.trans (g8.trans g9))))).trans (g10.trans (g11.trans (g12.trans (g13.trans (g14.trans g15)))))
  have z1:=ZS.mono gg.ph _ _ z1
  have z2:=ZS.mono gg.ph _ _ z2
  have zg:ZL (PH h15) (ofL goodsZ) gdV:=.mk rfl (.mk rfl .nil)
  have rb:ZL (PH h15) (ofL (blk0Z (cellAt ns))) _:=ZL.appL (ZL.takeL (((firstZ (cellAt ns)).fdiv 36).fmod 2).toNat _ _ zg) _ _ (ZL.appL (.mk z2 .nil) _ _ (ZL.appL (ZL.dropL (((firstZ (cellAt ns)).fdiv 12).fmod 3).toNat _ _ zg) _ _ (ZL.appL (.mk z1 .nil) _ _ (ZL.repL (ZL.takeL (((firstZ (cellAt ns)).fdiv 4).fmod 3).toNat _ _ zg) (pick3 1 1 30 (((firstZ (cellAt ns)).fdiv 864).fmod 3))))))
  have key:=dues_ok G (ga:=ga) hz (gg _ _ hs) (gg _ _ hw) z1 z2 k15 rb fun h' pa as g'=>hQ h' pa as (gg.trans g')
  repeat (first | exact key | walk_at "s")
end
end Mine
end
noncomputable section
namespace Mine
noncomputable def TZ.d:TZ → D
  | .num i=>.tup [.str 35,.int i]
  | .box k=>.tup [.str 36,.int k]
  | .call f t=>.tup [.str 14,.int f,t.d]
  | .ari w a b=>.tup [.str w.w,a.d,b.d]
mutual
noncomputable def SZ.d:SZ → D
  | .set k t=>.tup [.str 22,.int k,t.d]
  | .say t=>.tup [.str 23,t.d]
  | .give t=>.tup [.str 43,t.d]
  | .raise t=>.tup [.str 31,t.d]
  | .if_ t a b=>.tup [.str 37,t.d,.list a.d,.list b.d]
  | .loop t a=>.tup [.str 38,t.d,.list a.d]
  | .catch a n k b=>.tup [.str 39,.list a.d,optD n,.int k,.list b.d]
  | .end_ a b=>.tup [.str 40,.list a.d,.list b.d]
  | .leave=>.tup [.str 41]
  | .next=>.tup [.str 42]
noncomputable def BZ.d:BZ → List D
  | .nil=>[]
  | .cons s b=>s.d :: b.d
end
mutual
noncomputable def SZ.rk:SZ → Nat
  | .set _ t=>t.dp + 2
  | .say t=>t.dp + 2
  | .give t=>t.dp + 2
  | .raise t=>t.dp + 2
  | .if_ t a b=>max t.dp (max a.rk b.rk) + 2
  | .loop t a=>max t.dp a.rk + 2
  | .catch a _ _ b=>max a.rk b.rk + 2
  | .end_ a b=>max a.rk b.rk + 2
  | .leave=>2
  | .next=>2
noncomputable def BZ.rk:BZ → Nat
  | .nil=>0
  | .cons s b=>max s.rk b.rk
end
theorem up2 {a n:Nat} (h:a + 2 ≤ n):∃ m,n = m + 2 ∧ a ≤ m:=by
  obtain ⟨m,rfl⟩:=Nat.exists_eq_add_of_le' (nlt (Nat.le_add_left 2 a) h)
  exact ⟨m,rfl,Nat.le_of_add_le_add_right h⟩
theorem ml {a b m:Nat} (h:max a b ≤ m):a ≤ m ∧ b ≤ m:=⟨nlt (Nat.le_max_left ..) h,nlt (Nat.le_max_right ..) h⟩
section
variable {h:Hp}
theorem rd_TZ:∀ (t:TZ) (n:Nat),t.dp ≤ n → rd (n + 1) h t.v = some t.d
  | .num i,0,q=>nomatch q
  | .num i,n + 1,q=>rfl
  | .box i,0,q=>nomatch q
  | .box i,n + 1,q=>rfl
  | .call f t,0,q=>nomatch q
  | .call f t,n + 1,q=>rd_t (mo_c rfl (mo_c rfl (mo_c (rd_TZ t n (Nat.le_of_succ_le_succ q)) mo_n)))
  | .ari w a b,0,q=>nomatch q
  | .ari w a b,n + 1,q=>rd_t (mo_c rfl (mo_c (rd_TZ a n (ml (Nat.le_of_succ_le_succ q)).1) (mo_c (rd_TZ b n (ml (Nat.le_of_succ_le_succ q)).2) mo_n)))
mutual
theorem rd_ZS:∀ (s:SZ) (v:V) (n:Nat),ZS (PH h) s v → s.rk ≤ n → rd n h v = some s.d
  | .set k t,v,n,r,q=>by obtain ⟨m,rfl,q'⟩:=up2 q; cases r; exact rd_t (mo_c rfl (mo_c rfl (mo_c (rd_TZ t _ q') mo_n)))
  | .say t,v,n,r,q=>by obtain ⟨m,rfl,q'⟩:=up2 q; cases r; exact rd_t (mo_c rfl (mo_c (rd_TZ t _ q') mo_n))
  | .give t,v,n,r,q=>by obtain ⟨m,rfl,q'⟩:=up2 q; cases r; exact rd_t (mo_c rfl (mo_c (rd_TZ t _ q') mo_n))
  | .raise t,v,n,r,q=>by obtain ⟨m,rfl,q'⟩:=up2 q; cases r; exact rd_t (mo_c rfl (mo_c (rd_TZ t _ q') mo_n))
  | .if_ t a b,v,n,r,q=>by
    obtain ⟨x,y,rfl,⟨xs,p,ra⟩,⟨ys,p',rb⟩⟩:=r
    obtain ⟨m,rfl,q'⟩:=up2 q
    have q2:=ml (ml q').2
    exact rd_t (mo_c rfl (mo_c (rd_TZ t _ (ml q').1) (mo_c (rd_list p (rd_ZL a xs m ra q2.1)) (mo_c (rd_list p' (rd_ZL b ys m rb q2.2)) mo_n))))
  | .loop t a,v,n,r,q=>by
    obtain ⟨x,rfl,⟨xs,p,ra⟩⟩:=r
    obtain ⟨m,rfl,q'⟩:=up2 q
    exact rd_t (mo_c rfl (mo_c (rd_TZ t _ (ml q').1) (mo_c (rd_list p (rd_ZL a xs m ra (ml q').2)) mo_n)))
  | .catch a i k b,v,n,r,q=>by
    obtain ⟨x,y,rfl,⟨xs,p,ra⟩,⟨ys,p',rb⟩⟩:=r
    obtain ⟨m,rfl,q'⟩:=up2 q
    exact rd_t (mo_c rfl (mo_c (rd_list p (rd_ZL a xs m ra (ml q').1)) (mo_c (rd_o i) (mo_c rfl (mo_c (rd_list p' (rd_ZL b ys m rb (ml q').2)) mo_n)))))
  | .end_ a b,v,n,r,q=>by
    obtain ⟨x,y,rfl,⟨xs,p,ra⟩,⟨ys,p',rb⟩⟩:=r
    obtain ⟨m,rfl,q'⟩:=up2 q
    exact rd_t (mo_c rfl (mo_c (rd_list p (rd_ZL a xs m ra (ml q').1)) (mo_c (rd_list p' (rd_ZL b ys m rb (ml q').2)) mo_n)))
  | .leave,v,n,r,q=>by obtain ⟨m,rfl,q'⟩:=up2 (a:=0) q; cases r; rfl
  | .next,v,n,r,q=>by obtain ⟨m,rfl,q'⟩:=up2 (a:=0) q; cases r; rfl
theorem rd_ZL:∀ (b:BZ) (vs:List V) (n:Nat),ZL (PH h) b vs → b.rk ≤ n → mapO (rd n h) vs = some b.d
  | .nil,vs,n,r,q=>by cases r; rfl
  | .cons s b,vs,n,r,q=>by
    obtain ⟨v,ws,rfl,rs,rl⟩:=r
    exact mo_c (rd_ZS s v n rs (ml q).1) (rd_ZL b ws n rl (ml q).2)
end
theorem rd_ZP:∀ (ls:List (List SZ)) (as:List Nat),ZPL (PH h) ls as → (∀ l ∈ ls,(ofL l).rk ≤ 58) → mapO (rd 59 h) (as.map V.ref) = some (ls.map fun l=>.list (ofL l).d)
  | [],_,r,o=>by cases r; rfl
  | l :: ls,_,r,o=>by
    obtain ⟨a,as,rfl,⟨vs,p,rl⟩,rp⟩:=r
    exact mo_c (rd_list p (rd_ZL _ vs 58 rl (o l (.head _)))) (rd_ZP ls as rp fun b' hb=>o b' (.tail _ hb))
end
structure Bd (N R:Nat) (xs:List SZ):Prop where
  n:(toB (ofL xs)).nd ≤ N
  r:(ofL xs).rk ≤ R
theorem Bd.mono {N R N' R':Nat} {xs:List SZ} (b:Bd N R xs) (h:N ≤ N') (k:R ≤ R'):Bd N' R' xs:=⟨nlt b.n h,nlt b.r k⟩
theorem Bd.nil {R:Nat}:Bd 0 R []:=⟨Nat.le_refl 0,Nat.zero_le R⟩
theorem mx {a b m:Nat} (h:a ≤ m) (k:b ≤ m):max a b ≤ m:=Nat.max_le.mpr ⟨h,k⟩
theorem Bd.cons {N M R:Nat} {x:SZ} {xs:List SZ} (h:(toS x).nd ≤ N) (k:x.rk ≤ R) (b:Bd M R xs):Bd (N + M) R (x :: xs):=⟨Nat.add_le_add h b.n,mx k b.r⟩
theorem Bd.one {N R:Nat} {x:SZ} (h:(toS x).nd ≤ N) (k:x.rk ≤ R):Bd N R [x]:=Bd.cons (M:=0) h k .nil
theorem Bd.app {N M R:Nat} {ys:List SZ} (b:Bd M R ys):∀ {xs:List SZ},Bd N R xs → Bd (N + M) R (xs ++ ys)
  | [],a=>⟨nlt b.n (Nat.le_add_left _ _),b.r⟩
  | x :: xs,a=>by
    have i:=Bd.app b (xs:=xs) (N:=(toB (ofL xs)).nd) ⟨Nat.le_refl _,(ml a.r).2⟩
    exact ⟨nlt (Nat.add_le_add_left i.n _) (nlt (Nat.le_of_eq (Nat.add_assoc ..).symm) (Nat.add_le_add_right a.n _)),mx (ml a.r).1 i.r⟩
theorem Bd.rep {N R:Nat} {xs:List SZ} (b:Bd N R xs):∀ n,Bd (N * n) R (repZ xs n)
  | 0=>.nil
  | n + 1=>(Bd.app (b.rep n) b).mono (Nat.le_of_eq (Nat.add_comm ..)) (Nat.le_refl R)
theorem Bd.take2 (n:Nat):Bd 2 3 (goodsZ.take n):=by
  match n with
  | 0=>exact ⟨by decide,by decide⟩
  | 1=>exact ⟨by decide,by decide⟩
  | n + 2=>rw [List.take_of_length_le (Nat.le_add_left 2 n)]; exact ⟨by decide,by decide⟩
theorem Bd.drop2 (n:Nat):Bd 2 3 (goodsZ.drop n):=by
  match n with
  | 0=>exact ⟨by decide,by decide⟩
  | 1=>exact ⟨by decide,by decide⟩
  | n + 2=>rw [List.drop_of_length_le (Nat.le_add_left 2 n)]; exact ⟨by decide,by decide⟩
theorem a2 {n:Nat} (h:n ≤ 9):n + 2 ≤ 13:=nlt (Nat.add_le_add_right h 2) (by decide)
theorem st_bd {c:Nat} (hc:1 ≤ c ∧ c ≤ 4) (cell other:Int):Bd 3 13 [(stZ c cell other).1]:=by
  obtain ⟨_,_,t3⟩:=good_q hc other
  unfold stZ stW
  generalize treeZ c other = t at *
  obtain ⟨t,du⟩:=t
  have t3:t.dp ≤ 9:=t3
  have m9:=mod_in cell (show (0:Int) < 9 by decide)
  generalize cell.fmod 9 = k at *
  refine ite_i (P:=fun z:SZ × Nat=>Bd 3 13 [z.1]) (fun q=>?_) fun zz=>ite_i (P:=fun z:SZ × Nat=>Bd 3 13 [z.1]) (fun zz=>?_) fun zz=>ite_i (P:=fun z:SZ × Nat=>Bd 3 13 [z.1]) (fun zz=>?_) fun zz=>?_
  · rcases lt6c ⟨m9.1,q⟩ with e | e | e | e | e | e <;> subst e
    · exact .one (Nat.le_of_ble_eq_true rfl) (a2 t3)
    · exact .one (Nat.le_of_ble_eq_true rfl) (a2 t3)
    · exact .one (Nat.le_of_ble_eq_true rfl) (a2 (mx t3 (Nat.zero_le _)))
    · exact .one (Nat.le_of_ble_eq_true rfl) (a2 (mx t3 (Nat.zero_le _)))
    · exact .one (Nat.le_of_ble_eq_true rfl) (a2 t3)
    · exact .one (Nat.le_of_ble_eq_true rfl) (a2 t3)
  · exact .one (Nat.le_of_ble_eq_true rfl) (a2 t3)
  · exact .one (Nat.le_of_ble_eq_true rfl) (Nat.add_le_add_right (m:=11) (mx (by decide) (mx (Nat.add_le_add_right t3 2) (Nat.zero_le _))) 2)
  · unfold pick2
    exact ite_i (P:=fun z:SZ=>Bd 3 13 [z]) (fun zz=>.one (Nat.le_of_ble_eq_true rfl) (Nat.le_of_ble_eq_true rfl)) fun zz=>.one (Nat.le_of_ble_eq_true rfl) (Nat.le_of_ble_eq_true rfl)
theorem bes_bd (bad:Bool):Bd 1 3 (besideZ bad):=by
  cases bad with
  | true=>exact ⟨by decide,by decide⟩
  | false=>exact ⟨by decide,by decide⟩
theorem pick_30 (i:Int):pick3 1 1 30 i ≤ 30:=by
  unfold pick3
  exact ite_i (P:=fun z:Nat=>z ≤ 30) (fun zz=>by decide) fun zz=>ite_i (P:=fun z:Nat=>z ≤ 30) (fun zz=>by decide) fun zz=>Nat.le_refl 30
theorem around_bd {N R:Nat} {b:List SZ} (h:Bd N R b) (hR:3 ≤ R) (w:Int) (bad:Bool):Bd (N + 4) (R + 2) (aroundZ b w bad):=by
  have s:=bes_bd bad
  have sr:=nlt s.r hR
  have r0:(0:Nat) ≤ R:=Nat.zero_le R
  have r1:(1:Nat) ≤ R:=nlt (by decide) hR
  have r3:(3:Nat) ≤ R + 2:=nlt hR (Nat.le_add_right _ _)
  have two:∀ {m n:Nat},m ≤ N → n ≤ 1 → m + n + 1 ≤ N + 2:=fun a b=>Nat.succ_le_succ (Nat.add_le_add a b)
  have two':∀ {m n:Nat},n ≤ N → m ≤ 1 → m + n + 1 ≤ N + 2:=fun a b=>nlt (Nat.le_of_eq (congrArg (· + 1) (Nat.add_comm ..))) (two a b)
  unfold aroundZ
  refine ite_i (P:=Bd (N + 4) (R + 2)) (fun zz=>?_) fun zz=>ite_i (P:=Bd (N + 4) (R + 2)) (fun zz=>?_) fun zz=>ite_i (P:=Bd (N + 4) (R + 2)) (fun zz=>?_) fun zz=>ite_i (P:=Bd (N + 4) (R + 2)) (fun zz=>?_) fun zz=>ite_i (P:=Bd (N + 4) (R + 2)) (fun zz=>?_) fun zz=>ite_i (P:=Bd (N + 4) (R + 2)) (fun zz=>?_) fun zz=>?_
  · exact (Bd.cons (N:=N + 2) (M:=1) (x:=.if_ (.box 1) (ofL b) (ofL (besideZ bad))) (two h.n s.n) (Nat.add_le_add_right (mx r1 (mx h.r sr)) 2) (.one (x:=.say (.box 2)) (Nat.le_refl 1) r3)).mono (Nat.add_le_add_left (show 3 ≤ 4 by decide) N) (Nat.le_refl _)
  · exact (Bd.one (N:=N + 2) (x:=.if_ (.box 1) .nil (ofL b)) (two' h.n (Nat.zero_le 1)) (Nat.add_le_add_right (mx r1 (mx r0 h.r)) 2)).mono (Nat.add_le_add_left (show 2 ≤ 4 by decide) N) (Nat.le_refl _)
  · exact (Bd.cons (N:=1) (x:=.set 0 (.num 1)) (Nat.le_refl 1) r3 (Bd.cons (N:=N + 2) (M:=1) (x:=.catch (ofL b) none 1 (ofL (besideZ bad))) (two h.n s.n) (Nat.add_le_add_right (mx h.r sr) 2) (.one (x:=.say (.num 3)) (Nat.le_refl 1) r3))).mono (Nat.le_of_eq (Nat.add_comm ..)) (Nat.le_refl _)
  · exact (Bd.one (N:=N + 2) (x:=.catch .nil (some 3) 1 (ofL b)) (two' h.n (Nat.zero_le 1)) (Nat.add_le_add_right (mx r0 h.r) 2)).mono (Nat.add_le_add_left (show 2 ≤ 4 by decide) N) (Nat.le_refl _)
  · exact (Bd.cons (N:=N + 2) (M:=1) (x:=.end_ (ofL b) (ofL (besideZ bad))) (two h.n s.n) (Nat.add_le_add_right (mx h.r sr) 2) (.one (x:=.raise (.num 2)) (Nat.le_refl 1) r3)).mono (Nat.add_le_add_left (show 3 ≤ 4 by decide) N) (Nat.le_refl _)
  · exact (Bd.cons (N:=1) (x:=.say (.num 3)) (Nat.le_refl 1) r3 (Bd.one (N:=N + 2) (x:=.end_ .nil (ofL b)) (two' h.n (Nat.zero_le 1)) (Nat.add_le_add_right (mx r0 h.r) 2))).mono (nlt (Nat.le_of_eq (Nat.add_comm ..)) (Nat.le_succ _)) (Nat.le_refl _)
  · exact (Bd.one (N:=N + 1) (x:=.loop (.num 0) (ofL b)) (Nat.add_le_add_right h.n 1) (Nat.add_le_add_right (mx r1 h.r) 2)).mono (Nat.add_le_add_left (show 1 ≤ 4 by decide) N) (Nat.le_refl _)
section
variable {cell:Nat → Int}
theorem blk_bd:Bd 70 13 (blk0Z cell):=by
  have s1:=st_bd (cnt_ok (cell:=cell)) (cell 1) (cell 2)
  have s2:=st_bd (cnt_ok (cell:=cell)) (cell 3) (cell 4)
  have g1:=((Bd.take2 (((firstZ cell).fdiv 4).fmod 3).toNat).rep (pick3 1 1 30 (((firstZ cell).fdiv 864).fmod 3))).mono (Nat.mul_le_mul_left 2 (pick_30 _)) (show 3 ≤ 13 by decide)
  have g2:=(Bd.drop2 (((firstZ cell).fdiv 12).fmod 3).toNat).mono (Nat.le_refl 2) (show 3 ≤ 13 by decide)
  have g3:=(Bd.take2 (((firstZ cell).fdiv 36).fmod 2).toNat).mono (Nat.le_refl 2) (show 3 ≤ 13 by decide)
  exact Bd.app g3 (Bd.app s2 (Bd.app g2 (Bd.app s1 g1)))
theorem wrap_bd {ways:List Int} {bad:Nat → Bool} {b:List SZ} {du:Nat} (h:Bd 70 13 b):∀ k,Bd (70 + 4 * k) (13 + 2 * k) (wrapZ ways bad b du k).1
  | 0=>h
  | k + 1=>(around_bd (wrap_bd h k) (nlt (by decide) (Nat.le_add_right 13 _)) (ways.getD k 0) (bad k)).mono (Nat.le_refl _) (Nat.le_refl _)
theorem prog_bd:∀ l ∈ progL cell,Bd 102 29 l:=by
  have f:Bd 102 29 (finZ cell).1:=(wrap_bd blk_bd (deepN cell)).mono (Nat.add_le_add_left (Nat.mul_le_mul_left 4 deep_ok) 70) (Nat.add_le_add_left (Nat.mul_le_mul_left 2 deep_ok) 13)
  have gb:Bd 102 29 gbZ:=⟨by decide,by decide⟩
  have lb:Bd 102 29 lastZ:=⟨by decide,by decide⟩
  have s1:∀ l ∈ (List.replicate (cntZ cell) gbZ).set (atZ cell) (finZ cell).1,Bd 102 29 l:=fun l hl=>by
    rcases List.mem_or_eq_of_mem_set hl with q | q
    · rw [List.eq_of_mem_replicate q]; exact gb
    · rw [q]; exact f
  unfold progL
  refine ite_i (P:=fun z:List (List SZ)=>∀ l ∈ z,Bd 102 29 l) (fun zz l hl=>?_) fun zz=>s1
  rcases List.mem_or_eq_of_mem_set hl with q | q
  · exact s1 l q
  · rw [q]; exact lb
end
end Mine
end
noncomputable section
namespace Mine.L06
open Mine
structure LG (g:Genv):Prop where
  ng:NG g
  cg:CG g
  dg:DG g
  kg:KG g
noncomputable abbrev tb6:List (Nat × Nat):=[(69,36),(70,60),(71,38),(72,47)]
structure St6 (h:Hp) (ns:List Int) (pa:Nat) (as:List Nat) (ls:List (List SZ)):Prop where
  s:h[0]? = some (.flist (ns.map .int))
  p:h[pa]? = some (.list (as.map V.ref))
  z:ZPL (PH h) ls as
  b:∀ l ∈ ls,Bd 102 29 l
  n:ls.length ≤ 4
  e:ls = [] ∨ ls = progL (cellAt ns)
theorem St6.go {h h':Hp} {ns:List Int} {pa:Nat} {as:List Nat} {ls:List (List SZ)} (x:St6 h ns pa as ls) (g:Gr h h'):St6 h' ns pa as ls:=⟨g _ _ x.s,g _ _ x.p,ZP.mono g.ph _ _ x.z,x.b,x.n,x.e⟩
theorem St6.rd {h:Hp} {ns:List Int} {pa:Nat} {as:List Nat} {ls:List (List SZ)} (x:St6 h ns pa as ls):rd 60 h (.ref pa) = some (.list (ls.map fun l=>.list (ofL l).d)):=rd_list x.p (rd_ZP ls as x.z fun l hl=>nlt (x.b l hl).r (by decide))
theorem kp_gr {h h':Hp} (k:Keep h.length h h'):Gr h h':=fun a o e=>(k.2 a (get_lt e)).trans e
theorem eq_f {h:Hp} {u v:V} {x:D} {xs:List D} (hu:u.asBool = none) (h1:rd 60 h u = some (.list (x :: xs))) (h2:rd 60 h v = some (.list [])):cmpop .eq u v h = some false:=by
  rw [cmp_eq]; unfold eqop; rw [hu]; dsimp only
  exact eqD_of h1 h2 (p:=False) ⟨fun e=>absurd (D.list.inj e) (fun z=>nomatch z),False.elim⟩
theorem prog_ne {ns:List Int}:∃ l ls,progL (cellAt ns) = l :: ls:=by
  have:=prog_len (cell:=cellAt ns)
  cases e:progL (cellAt ns) with
  | nil=>rw [e] at this; exact absurd this (Nat.ne_of_lt cnt_ok.1)
  | cons l ls=>exact ⟨l,ls,rfl⟩
section
variable {g:Genv} (G:LG g) {h:Hp} {ns:List Int} {pa:Nat} {as:List Nat} {ls:List (List SZ)}
include G
theorem rest_ok {u1 u2:Option V} (S:St6 h ns pa as ls):wpE g (callWp g 597) (callWp g 596) [some (.ref 0),u1,u2,some (.ref pa)] zLaw_e h (fun v zz=>v = .bool true) noX:=by
  show WE ⟨g,callWp g 597,callWp g 596,noX⟩ _ _ _ _
  have hz:Is ⟨g,callWp g 597,callWp g 596,noX⟩ g 596 noX:=rfl
  generalize (⟨g,callWp g 597,callWp g 596,noX⟩:Cz) = c at *
  walk_at "w"
  refine l_lstG fun h1 x g1 hx=>?_
  have S:=S.go g1
  have rx:rd 60 h1 (.ref x) = some (.list []):=rd_list hx rfl
  rcases S.e with e | e
  · have r1:=S.rd
    rw [e] at r1
    refine o_eqt rfl r1 rx ?_
    exact b_t rfl rfl
  · obtain ⟨l,ls',e2⟩:=prog_ne (ns:=ns)
    have r1:=S.rd
    rw [e.trans e2] at r1
    refine o_cmpd (eq_f rfl r1 rx) ?_
    walk_at "w"
    refine prog_ok G.ng (r:=590) S.s fun h2 pb as2 g2 hp2 z2=>?_
    have S1:=S.go g2
    have S2:St6 h2 ns pb as2 (progL (cellAt ns)):=⟨S1.s,hp2,z2,e ▸ S1.b,e ▸ S1.n,.inr rfl⟩
    have r1:=S1.rd
    rw [e] at r1
    walk_at "w"
    exact o_eqt rfl r1 S2.rd rfl
theorem key_ok {c:Cz} {u1:Option V} {KN:KS} {d:Nat} (hz:Is c g 596 noX) (S:St6 h ns pa as ls) (hd:dueT (chkP (ls.map ofL)) = d) (hw:wordOk (chkP (ls.map ofL)))
    (hK:∀ l h',AbsS g 3 2 68 28 57 39 zLaw_e tb6 ⟨l,h'⟩ → KN l h'):WS c zLaw_4 [some (.ref 0),u1,some (.str d),some (.ref pa)] h KN (fun zz zz=>False):=by
  rcases due_cases hd hw with ⟨rfl,o⟩ | ⟨k,o,m⟩
  · have ne:ls ≠ []:=fun z=>by subst z; cases o
    have ok:=toP_ok (P:=PH h) (ls.map ofL) (c:=ls.length) (by unfold chkP at o; obtain ⟨_,o⟩:=if_none o; rw [List.length_map] at o; exact o)
    have hl:((ls.map ofL).map toB).length = ls.length:=by rw [List.length_map,List.length_map]
    have okp:okP ((ls.map ofL).map toB):=⟨fun z=>ne (List.map_eq_nil_iff.mp (List.map_eq_nil_iff.mp z)),by rw [hl]; exact ok.1⟩
    have hn:∀ b ∈ (ls.map ofL).map toB,b.nd ≤ 102:=fun b hb=>by
      rw [List.map_map] at hb
      obtain ⟨l,h1,rfl⟩:=List.mem_map.mp hb
      exact (S.b l h1).n
    have rp:∀ h2,Gr h h2 → RP (PB h2.length h2) ((ls.map ofL).map toB) as:=fun h2 g2=>((ok.2 as S.z).mono fun a vs z=>⟨get_lt (g2.ph _ _ z),g2.ph _ _ z⟩)
    have chk:∀ h2,Gr h h2 → ∀ {r:Nat} {Q:KE},Q .none h2 → callWp g (r + 44) 28 [.ref pa] h2 Q noX:=fun h2 g2 {_ _} q=>checked_z G.cg (S.go g2).p (S.go g2).z (by rw [o]; exact q)
    walk_at "w"
    refine chk h .refl (r:=553) ?_
    walk_at "w"
    refine hK _ _ (.good (.ref pa) (Gr h) (Gr h) rfl rfl (fun Q q=>chk h .refl (r:=551) q) (fun Q q=>?_) (fun h2 g2 Q q=>?_) fun h3 g3=>rest_ok G (S.go g3))
    · exact made_ok G.kg (R:=535) (chk h .refl) ⟨get_lt S.p,S.p⟩ (rp h .refl) okp (by rw [hl]; exact nlt S.n (by decide)) (mk_ok okp.2 hn (by rw [hl]; exact nlt S.n (by decide)) (by decide)) (Ow.start (Own.nil (Nat.le_refl _))) fun h' r s e w=>q _ _ (kp_gr w.k)
    · have p2:=g2 _ _ S.p
      exact told_ok G.dg (chk h2 g2) (r:=225) (M:=102) (n:=3) (Ow.start (Own.nil (Nat.le_refl _))) ⟨⟨get_lt p2,p2⟩,rp h2 g2,okp,fun b hb=>nlt (Bl.sz_nd b) (hn b hb)⟩ (by decide) fun w i s' h' sd e w=>q _ _ (g2.trans (kp_gr w.k))
  · have chk:∀ {r:Nat} {X:Nat → Hp → Prop},X k h → callWp g (r + 44) 28 [.ref pa] h (fun zz zz=>False) X:=fun q=>checked_z G.cg S.p S.z (by rw [o]; exact q)
    have d68:decide (d = 68) = false:=decide_eq_false fun z=>by
      subst z
      rcases List.mem_cons.mp m with e | m
      · cases e
      · rcases List.mem_cons.mp m with e | m
        · cases e
        · rcases List.mem_cons.mp m with e | m
          · cases e
          · rcases List.mem_cons.mp m with e | m
            · cases e
            · cases m
    walk_at "w"
    refine b_f d68 ?_
    walk_at "w"
    exact hK _ _ (.bad (.ref pa) d k rfl rfl m (fun X q=>chk (r:=551) q) (fun X q=>chk (r:=550) q) (rest_ok G S))
theorem spec' (hn:ns.length ≤ 63) (KN:St → Prop) (hK:∀ σ,AbsS g 3 2 68 28 57 39 zLaw_e tb6 σ → KN σ):wpS g (callWp g 597) (callWp g 596) zLaw_0 ⟨[some (.ref 0),none,none,none],[.flist (ns.map .int)]⟩ KN (fun zz zz=>False) noX:=by
  show WS ⟨g,callWp g 597,callWp g 596,noX⟩ zLaw_0 [some (.ref 0),none,none,none] [.flist (ns.map .int)] (fun l h=>KN ⟨l,h⟩) (fun zz zz=>False)
  have hz:Is ⟨g,callWp g 597,callWp g 596,noX⟩ g 596 noX:=rfl
  have hs:([O.flist (ns.map .int)]:Hp)[0]? = some (.flist (ns.map .int)):=rfl
  generalize ([O.flist (ns.map .int)]:Hp) = h at *
  generalize (⟨g,callWp g 597,callWp g 596,noX⟩:Cz) = c at *
  walk_at "w"
  refine prog_ok G.ng (r:=590) hs fun h1 pa as g1 hp z=>?_
  have hs:=g1 _ _ hs
  walk_at "w"
  refine cellAt_ok G.ng.f12 5 hs ?_
  walk_at "w"
  refine b_d (fun q=>?_) (fun q=>?_)
  · walk_at "w"
    refine l_lstG fun h2 x g2 hx=>?_
    have key:=key_ok G (h:=h2) (pa:=x) (as:=[]) (ls:=[]) (u1:=some (.tup [.ref pa,.str (progD (cellAt ns))])) (KN:=fun l h=>KN ⟨l,h⟩) (d:=60) hz ⟨g2 _ _ hs,hx,rfl,(fun l hl=>nomatch hl),Nat.zero_le _,.inl rfl⟩ rfl (.inr (.inr (.inl rfl))) fun l h' a=>hK _ a
    repeat (first | exact key | walk_at "s")
  · have key:=key_ok G (u1:=some (.tup [.ref pa,.str (progD (cellAt ns))])) (KN:=fun l h=>KN ⟨l,h⟩) hz ⟨hs,hp,z,prog_bd,by rw [prog_len]; exact cnt_ok.2,.inr rfl⟩ prog_due.1 prog_due.2 fun l h' a=>hK _ a
    repeat (first | exact key | walk_at "s")
end
end Mine.L06
end
noncomputable section
namespace Mine
section
variable {g:Genv}
theorem quiet_step (hf:g.fn 23 = some cWithin) (C N:Oracle):Quiet (stepC g C N) [23]:=fun f vs h Q Q' X hm k z=>by
  cases List.mem_singleton.mp hm
  unfold stepC at z ⊢
  rw [hf,onSome_some] at z ⊢
  obtain ⟨z1,z2,z3⟩:=z
  exact ⟨z1,z2,nr_ok (C:=C) (N:=N) (NR:=[]) (fun f vs h Q Q' X hm=>nomatch hm) (.and_ (.isi (.loc 0) .int) (.and_ (.not_ (.isi (.loc 0) .bool)) (.cmp2 .le .lt (.int 0) (.loc 0) (.loc 1)))) rfl _ _ _ k z3⟩
theorem quiet_all (hf:g.fn 23 = some cWithin):∀ r,Quiet (callWp g r) [23]
  | 0=>fun f vs h Q Q' X hm k z=>z.elim
  | 1=>quiet_step hf _ _
  | r + 2=>quiet_step hf _ _
theorem six_abs {x:Six} (G:L06.LG g) (q1:x.L.q1.f = 28 ∧ x.L.q1.is = [.loc 0]) (q2:x.L.q2.f = 57 ∧ x.L.q2.is = [.loc 0]) (q3:x.L.q3.f = 39 ∧ x.L.q3.is = [.loc 0,.int 0,.int 3]):SixA g x [23] [24,25,26,27,28] 28 57 39 68 where
  xf:=fun f hf=>by
    rcases List.mem_cons.mp hf with rfl | hf
    · exact ⟨_,G.cg.f24,rfl⟩
    rcases List.mem_cons.mp hf with rfl | hf
    · exact ⟨_,G.cg.f25,rfl⟩
    rcases List.mem_cons.mp hf with rfl | hf
    · exact ⟨_,G.cg.f26,rfl⟩
    rcases List.mem_cons.mp hf with rfl | hf
    · exact ⟨_,G.cg.f27,rfl⟩
    rcases List.mem_cons.mp hf with rfl | hf
    · exact ⟨_,G.cg.f28,rfl⟩
    · cases hf
  ckx:=by decide
  quiet:=quiet_all G.cg.f23
  mkf:=⟨_,_,G.kg.f57,rfl,rfl,by decide⟩
  tlf:=⟨_,_,G.dg.f39,rfl,rfl,by decide⟩
  q1:=q1
  q2:=q2
  q3:=q3
end
end Mine
end
noncomputable section
namespace Mine.L06
open Mine
theorem dgMs:Mts law.g dMs:=fun c m f h=>by
  obtain ⟨q,h⟩:=if_some h
  cases Nat.eq_of_beq_eq_true q
  exact h
theorem dgAt:Ats law.g dAt:=fun c f h=>by
  obtain ⟨q,h⟩:=Bool.and_eq_true_iff.mp h
  cases Nat.eq_of_beq_eq_true q
  exact h
theorem kgMs:Mts law.g kMs:=fun c m f h=>by
  obtain ⟨q,h⟩:=if_some h
  cases Nat.eq_of_beq_eq_true q
  exact h
theorem kgAt:Ats law.g kAt:=fun c f h=>by
  obtain ⟨q,h⟩:=Bool.and_eq_true_iff.mp h
  cases Nat.eq_of_beq_eq_true q
  exact h
theorem lg:LG law.g:=⟨⟨rfl,rfl,rfl,rfl,rfl,rfl,rfl⟩,⟨rfl,rfl,rfl,rfl,rfl,rfl⟩,⟨rfl,rfl,rfl,rfl,rfl,rfl,rfl,rfl,rfl,rfl,rfl,rfl,dgMs,dgAt⟩,⟨rfl,rfl,rfl,rfl,rfl,rfl,rfl,rfl,rfl,rfl,rfl,rfl,rfl,rfl,rfl,rfl,rfl,rfl,rfl,kgMs,kgAt⟩⟩
end Mine.L06
end
noncomputable section
open PySem PySem.W PyProof.Rows
set_option maxHeartbeats 8000000
namespace Mine.L06
theorem left:LeftO rwL.row.prog (viewOf rwL.row.prog) [] (xtOf rwL.row.prog rwL.row.toRowW) (hook6 law ads 403 six).obs (hook6 law ads 403 six).val 6034:=left6 (left_joinT 40 left0 left1 left5 left2 left3 left4) left0 left7
theorem top:PySem.Challenge.rw_uf010007_06.Holds:=by
  refine holds_law said fun k1=>?_
  refine row_holds6 left dfn rfl k1 okO ⟨rfl,rfl,rfl,rfl,rfl,by decide +kernel⟩ (by w_witness2) fun d hdn=>?_
  intro w s₀ s₁ mg mb G Y fa o pm cd doc dV kV ho hd hcd hD hmg hg args vals as hpre hlay hrd hwl hlo
  obtain ⟨K,KX,⟨kgg,kfn,klw⟩,ksix,ktab⟩:=Y
  refine Ground.open G ?_
  intro T B D TE TW
  have hfa:fa = 403:=by
    have e:=mg_of KX T.g klw
    rw [hdn] at hmg
    rw [hmg] at e
    cases e; rfl
  subst hfa
  obtain ⟨dr,hdr⟩:=Option.isSome_iff_exists.mp recL
  obtain ⟨hcode,hP⟩:=tab_of T KX hdr ktab
  clear D TE TW hd hcd ho hD hmg
  wrow_args hpre hlay hrd hwl hlo
  rename_i hL _ _ _ hI _ hc _
  refine enter_call ?_
  have hn:=Int.ofNat_le.mp (Int.not_lt.mp hc)
  refine codeAny_mono (law_run6 (x:=six) kgg kfn KX T imps rfl ksix hcode hP (hcode.tab hP) rfl (six_abs lg ⟨rfl,rfl⟩ ⟨rfl,rfl⟩ ⟨rfl,rfl⟩) rfl (fun q hq=>?_) hL hI hn fun KN hK=>spec' lg hn KN hK) fun res s' z=>?_
  · rcases List.mem_cons.mp hq with rfl | hq
    · exact ⟨_,rfl⟩
    rcases List.mem_cons.mp hq with rfl | hq
    · exact ⟨_,rfl⟩
    rcases List.mem_cons.mp hq with rfl | hq
    · exact ⟨_,rfl⟩
    rcases List.mem_cons.mp hq with rfl | hq
    · exact ⟨_,rfl⟩
    · cases hq
  rcases res with e | (_ | _ | _ | v)
  · exact z.elim
  · exact z.elim
  · exact z.elim
  · exact z.elim
  · obtain ⟨rfl,z2,z3,z4⟩:=z
    refine ⟨.inl ⟨.bool true,.bool true,[],rfl,?_,.bool true,?_,?_⟩,z2,z3,.of_eq (z4.trans hg)⟩
    · intro cls; rfl
    · first | kernel_rfl | (with_unfolding_all rfl)
    · intro _; exact ⟨List.nodup_nil,by simp⟩
end Mine.L06
end

theorem PySem.Challenge.cw_uf010007_06_holds : PySem.Challenge.rw_uf010007_06.Holds :=
  Mine.L06.top
