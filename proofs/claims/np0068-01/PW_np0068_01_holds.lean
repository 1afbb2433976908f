import PyProof.Rows.All
import Wide.All
import OpenK.AllK
import Wide.FinOn
import Lean
import PySem.Challenge.RW_np0068_01
set_option Elab.async false
set_option linter.unusedVariables false
set_option genInjectivity false
set_option genSizeOfSpec false
namespace Mine
theorem noneSome {α:Type} {a:α} {P:Prop} (h:none = some a):P:=(Option.some_ne_none a h.symm).elim
inductive SV where
  | none | bool (b:Bool) | int (i:Int) | ref (a:Nat) | tri (i j k:Int)
  deriving DecidableEq,Inhabited
inductive Fld where
  | number | begin_ | end_ | front | rear | limit | offset | red | left | right | parent | root | count
  deriving DecidableEq
structure Nd where
  number:Int
  begin_:Int
  end_:Int
  front:Bool
  rear:Bool
  limit:Int
  offset:Int
  red:Bool
  left:Option Nat
  right:Option Nat
  parent:Option Nat
structure Tr where
  root:Option Nat
  count:Int
inductive SO where
  | node (n:Nd) | tree (t:Tr) | list (vs:List SV) | dict (kvs:List (Int × SV))
noncomputable abbrev Hp:=Nat→Option SO
noncomputable abbrev Lc:=List (Option SV)
noncomputable def opt:Option Nat→SV
  | .none=>.none
  | .some a=>.ref a
noncomputable def unopt:SV→Option (Option Nat)
  | .none=>some .none
  | .ref a=>some (.some a)
  | _=>.none
@[simp] theorem unopt_opt (o:Option Nat):unopt (opt o) = some o:=by cases o <;> rfl
noncomputable def SV.asInt:SV→Option Int
  | .int i=>some i
  | _=>.none
noncomputable def SV.asBool:SV→Option Bool
  | .bool b=>some b
  | _=>.none
noncomputable def SV.asRef:SV→Option Nat
  | .ref a=>some a
  | _=>.none
noncomputable def Nd.get (n:Nd):Fld→Option SV
  | .number=>some (.int n.number)
  | .begin_=>some (.int n.begin_)
  | .end_=>some (.int n.end_)
  | .front=>some (.bool n.front)
  | .rear=>some (.bool n.rear)
  | .limit=>some (.int n.limit)
  | .offset=>some (.int n.offset)
  | .red=>some (.bool n.red)
  | .left=>some (opt n.left)
  | .right=>some (opt n.right)
  | .parent=>some (opt n.parent)
  | _=>none
noncomputable def Nd.set (n:Nd) (f:Fld) (v:SV):Option Nd:=match f with
  | .number=>v.asInt.map fun i=>{ n with number:=i }
  | .begin_=>v.asInt.map fun i=>{ n with begin_:=i }
  | .end_=>v.asInt.map fun i=>{ n with end_:=i }
  | .front=>v.asBool.map fun i=>{ n with front:=i }
  | .rear=>v.asBool.map fun i=>{ n with rear:=i }
  | .limit=>v.asInt.map fun i=>{ n with limit:=i }
  | .offset=>v.asInt.map fun i=>{ n with offset:=i }
  | .red=>v.asBool.map fun i=>{ n with red:=i }
  | .left=>(unopt v).map fun i=>{ n with left:=i }
  | .right=>(unopt v).map fun i=>{ n with right:=i }
  | .parent=>(unopt v).map fun i=>{ n with parent:=i }
  | _=>none
noncomputable def Tr.get (t:Tr):Fld→Option SV
  | .root=>some (opt t.root)
  | .count=>some (.int t.count)
  | _=>none
noncomputable def Tr.set (t:Tr) (f:Fld) (v:SV):Option Tr:=match f with
  | .root=>(unopt v).map fun i=>{ t with root:=i }
  | .count=>v.asInt.map fun i=>{ t with count:=i }
  | _=>none
noncomputable def SO.get:SO→Fld→Option SV
  | .node n,f=>n.get f
  | .tree t,f=>t.get f
  | _,_=>none
noncomputable def SO.set:SO→Fld→SV→Option SO
  | .node n,f,v=>(n.set f v).map .node
  | .tree t,f,v=>(t.set f v).map .tree
  | _,_,_=>none
noncomputable def upd (σ:Hp) (a:Nat) (o:SO):Hp:=fun b=>if b = a then some o else σ b
@[simp] theorem upd_same (σ:Hp) (a:Nat) (o:SO):upd σ a o a = some o:=if_pos rfl
theorem upd_ne (σ:Hp) {a b:Nat} (o:SO) (h:b ≠ a):upd σ a o b = σ b:=if_neg h
noncomputable def Sub (σ' σ:Hp):Prop:=∀ a o,σ' a = some o→σ a = some o
theorem Sub.rfl {σ:Hp}:Sub σ σ:=fun _ _ h=>h
inductive Fid where
  | handDown | handDownTo | greatestEnd | renewLimits | hang | turnLeft | turnRight | isRed | colourInserted | turnedInward
  | putNode | firstBelow | takePlace | dropNode | colourDropped | siblingOf | turnTowards | lightened | allNodesInOrder | nodesBetween
  | beginsToMove | grows | openGap | shiftNodes | closeGap | blackHeight | nodesFromBelow | shapeError | overlayTreeError
  | lawDraw | lawLaid | lawCame | lawWent | lawDone | lawIsRight
inductive AOp where | add | sub | mul | fdiv | mod
inductive COp where | eq | ne | lt | le | gt | ge
mutual
inductive E where
  | bad | none | bool (b:Bool) | int (n:Nat) | negC (n:Nat)
  | var (i:Nat)
  | attr (e:E) (f:Fld)
  | bin (op:AOp) (a b:E)
  | cmp (op:COp) (a b:E)
  | is (neg:Bool) (a b:E)
  | eqL (neg:Bool) (a b:E)
  | not (e:E) | and (a b:E) | or (a b:E)
  | ite (c a b:E)
  | call (f:Fid) (es:Es)
  | max (a b:E) | abs (a:E) | len (a:E) | sorted (a:E) | sortedKeys (a:E)
  | idx (a b:E)
  | list (es:Es) | tri (a b c:E) | emptyDict
  | comp (x:Nat) (elt it:E) | compIf (x:Nat) (elt it c:E)
  | append (a b:E) | pop (a:E) | get (a k d:E)
  | rev (a:E) | upto (a:E) (n:Nat) | from_ (a:E) (n:Nat) | cat (a b:E)
  | newNode (es:Es)
  | given | newTree
inductive Es where
  | nil | cons (e:E) (r:Es)
end
mutual
inductive S where
  | bad
  | expr (e:E)
  | assign (x:Nat) (e:E)
  | setattr (o:E) (f:Fld) (v:E)
  | setidx (o i v:E)
  | delidx (o i:E)
  | asg (xs:List Nat) (es:Es)
  | asgAttr2 (o₁:E) (f₁:Fld) (o₂:E) (f₂:Fld) (a b:E)
  | unpack (xs:List Nat) (e:E)
  | asgTup (xs:List Nat) (es:Es)
  | ite (c:E) (a b:Ss)
  | while (c:E) (b:Ss)
  | forTup (x:Nat) (a b:E) (body:Ss)
  | forList (x:Nat) (e:E) (body:Ss)
  | forRange (x:Nat) (e:E) (body:Ss)
  | ret (e:E)
  | retNone
inductive Ss where
  | nil | cons (s:S) (r:Ss)
end
noncomputable abbrev Cal:=Fid→List SV→(SV→Hp→Prop)→Hp→Prop
noncomputable def rd (ρ:Lc) (i:Nat):Option SV:=(ρ[i]?).join
noncomputable def arith:AOp→Int→Int→Option Int
  | .add,i,j=>some (i + j)
  | .sub,i,j=>some (i - j)
  | .mul,i,j=>if i.natAbs < 2 ^ 40∧j.natAbs < 2 ^ 40 then some (i * j) else .none
  | .fdiv,i,j=>if j ≠ 0∧i.natAbs < 2 ^ 40∧j.natAbs < 2 ^ 40 then some (i.fdiv j) else .none
  | .mod,i,j=>if j ≠ 0 then some (i.fmod j) else .none
noncomputable def cmpI:COp→Int→Int→Bool
  | .eq,i,j=>decide (i = j)
  | .ne,i,j=>decide (i ≠ j)
  | .lt,i,j=>decide (i < j)
  | .le,i,j=>decide (i ≤ j)
  | .gt,i,j=>decide (i > j)
  | .ge,i,j=>decide (i ≥ j)
noncomputable def dput (kvs:List (Int × SV)) (k:Int) (v:SV):List (Int × SV) :=
  if kvs.any (fun p=>p.1 == k) then kvs.map (fun p=>if p.1 == k then (k,v) else p) else kvs ++ [(k,v)]
noncomputable def dget (kvs:List (Int × SV)) (k:Int):Option SV:=(kvs.find? (fun p=>p.1 == k)).map (·.2)
noncomputable def ddel (kvs:List (Int × SV)) (k:Int):List (Int × SV):=kvs.filter (fun p=>!(p.1 == k))
noncomputable def intsOf:List SV→Option (List Int)
  | []=>some []
  | v :: r=>v.asInt.bind fun i=>(intsOf r).map (i :: ·)
noncomputable def SV.asTri:SV→Option (Int × Int × Int)
  | .tri i j k=>some (i,j,k)
  | _=>.none
noncomputable def trisOf:List SV→Option (List (Int × Int × Int))
  | []=>some []
  | v :: r=>v.asTri.bind fun i=>(trisOf r).map (i :: ·)
noncomputable def flat (vs:List SV):Bool:=(intsOf vs).isSome || (trisOf vs).isSome
noncomputable def getAt (σ:Hp) (v i:SV):Option SV :=
  v.asRef.bind fun a=>i.asInt.bind fun i=>(σ a).bind fun o=>match o with
    | .list vs=>if 0 ≤ i∧i < 1000 then vs[i.toNat]? else .none
    | .dict kvs=>dget kvs i
    | _=>.none
noncomputable def setAt (σ:Hp) (v i w:SV):Option Hp :=
  v.asRef.bind fun a=>i.asInt.bind fun i=>(σ a).bind fun o=>match o with
    | .list vs=>if 0 ≤ i∧i < vs.length∧i < 1000 then some (upd σ a (.list (vs.set i.toNat w))) else .none
    | .dict kvs=>if kvs.length < 1000 then some (upd σ a (.dict (dput kvs i w))) else .none
    | _=>.none
noncomputable def getF (σ:Hp) (v:SV) (f:Fld):Option SV:=v.asRef.bind fun a=>(σ a).bind fun o=>o.get f
noncomputable def setF (σ:Hp) (v:SV) (f:Fld) (w:SV):Option Hp:=v.asRef.bind fun a=>(σ a).bind fun o=>(o.set f w).map fun o'=>upd σ a o'
noncomputable def listAt (σ:Hp) (v:SV):Option (List SV):=v.asRef.bind fun a=>(σ a).bind fun o=>match o with
  | .list vs=>some vs
  | _=>.none
noncomputable def dictAt (σ:Hp) (v:SV):Option (List (Int × SV)):=v.asRef.bind fun a=>(σ a).bind fun o=>match o with
  | .dict vs=>some vs
  | _=>.none
noncomputable def isOk (σ:Hp):SV→SV→Prop
  | .ref a,.ref b=>a = b ∨ ((σ a).isSome = true∧(σ b).isSome = true)
  | .ref _,.none=>True
  | .none,.ref _=>True
  | .none,.none=>True
  | _,_=>False
noncomputable def on {α:Type} (o:Option α) (k:α→Prop):Prop:=∃ a,o = some a∧k a
@[simp] theorem on_some {α:Type} (a:α) (k:α→Prop):on (some a) k ↔ k a:=⟨fun ⟨_,e,h⟩=>by cases e; exact h,fun h=>⟨a,rfl,h⟩⟩
@[simp] theorem on_none {α:Type} (k:α→Prop):on (none:Option α) k ↔ False:=⟨fun h=>(by obtain ⟨_,e,_⟩:=h; cases e),False.elim⟩
noncomputable def newO (o:SO) (Q:SV→Hp→Prop) (σ:Hp):Prop:=∀ l,σ l = none→Q (.ref l) (upd σ l o)
noncomputable def compGo (l:Nat) (vs:List SV) (C:SV→(SV→Hp→Prop)→Hp→Prop) (W:SV→(SV→Hp→Prop)→Hp→Prop):List SV→List SV→(List SV→Hp→Prop)→Hp→Prop
  | [],acc,K,σ=>K acc σ
  | v :: r,acc,K,σ=>C v (fun b σ=>on b.asBool fun b=>if b then W v (fun w σ=>σ l = some (.list vs)∧acc.length < 1000∧compGo l vs C W r (acc ++ [w]) K σ) σ else σ l = some (.list vs)∧compGo l vs C W r acc K σ) σ
noncomputable def isPermSortedI (ws vs:List Int):Prop:=ws.Perm vs∧ws.Pairwise (· ≤ ·)
noncomputable def isPermSortedT (ws vs:List (Int × Int × Int)):Prop:=ws.Perm vs∧ws.Pairwise (fun a b=>a.1 < b.1)
noncomputable def triV (t:Int × Int × Int):SV:=.tri t.1 t.2.1 t.2.2
noncomputable def sortedW (vs:List SV) (Q:SV→Hp→Prop) (σ:Hp):Prop :=
  vs.length < 64∧((∃ is,intsOf vs = some is∧∀ ws,isPermSortedI ws is→newO (.list (ws.map .int)) Q σ) ∨
  (∃ ts,trisOf vs = some ts∧(ts.map (·.1)).Nodup∧∀ ws,isPermSortedT ws ts→newO (.list (ws.map triV)) Q σ))
mutual
noncomputable def wpE (Γ:Cal):E→Lc→(SV→Hp→Prop)→Hp→Prop
  | .bad,_,_,_=>False
  | .none,_,Q,σ=>Q .none σ
  | .bool b,_,Q,σ=>Q (.bool b) σ
  | .int n,_,Q,σ=>Q (.int n) σ
  | .negC n,_,Q,σ=>Q (.int (-(n:Int))) σ
  | .var i,ρ,Q,σ=>on (rd ρ i) fun v=>Q v σ
  | .attr e f,ρ,Q,σ=>wpE Γ e ρ (fun v σ=>on (getF σ v f) fun w=>Q w σ) σ
  | .bin op a b,ρ,Q,σ=>wpE Γ a ρ (fun v σ=>wpE Γ b ρ (fun w σ=>on v.asInt fun i=>on w.asInt fun j=>on (arith op i j) fun k=>Q (.int k) σ) σ) σ
  | .cmp op a b,ρ,Q,σ=>wpE Γ a ρ (fun v σ=>wpE Γ b ρ (fun w σ=>on v.asInt fun i=>on w.asInt fun j=>Q (.bool (cmpI op i j)) σ) σ) σ
  | .is neg a b,ρ,Q,σ=>wpE Γ a ρ (fun v σ=>wpE Γ b ρ (fun w σ=>isOk σ v w∧Q (.bool (neg != decide (v = w))) σ) σ) σ
  | .eqL neg a b,ρ,Q,σ=>wpE Γ a ρ (fun v σ=>wpE Γ b ρ (fun w σ=>on (listAt σ v) fun vs=>on (listAt σ w) fun ws=>flat vs = true∧flat ws = true∧Q (.bool (neg != decide (vs = ws))) σ) σ) σ
  | .not e,ρ,Q,σ=>wpE Γ e ρ (fun v σ=>on v.asBool fun b=>Q (.bool !b) σ) σ
  | .and a b,ρ,Q,σ=>wpE Γ a ρ (fun v σ=>on v.asBool fun t=>if t then wpE Γ b ρ Q σ else Q v σ) σ
  | .or a b,ρ,Q,σ=>wpE Γ a ρ (fun v σ=>on v.asBool fun t=>if t then Q v σ else wpE Γ b ρ Q σ) σ
  | .ite c a b,ρ,Q,σ=>wpE Γ c ρ (fun v σ=>on v.asBool fun t=>if t then wpE Γ a ρ Q σ else wpE Γ b ρ Q σ) σ
  | .call f es,ρ,Q,σ=>wpEs Γ es ρ (fun vs σ=>Γ f vs Q σ) σ
  | .max a b,ρ,Q,σ=>wpE Γ a ρ (fun v σ=>wpE Γ b ρ (fun w σ=>on v.asInt fun i=>on w.asInt fun j=>Q (.int (if j > i then j else i)) σ) σ) σ
  | .abs a,ρ,Q,σ=>wpE Γ a ρ (fun v σ=>on v.asInt fun i=>Q (.int (if i < 0 then -i else i)) σ) σ
  | .len a,ρ,Q,σ=>wpE Γ a ρ (fun v σ=>on (listAt σ v) fun vs=>vs.length < 2 ^ 20∧Q (.int vs.length) σ) σ
  | .sorted a,ρ,Q,σ=>wpE Γ a ρ (fun v σ=>on (listAt σ v) fun vs=>sortedW vs Q σ) σ
  | .sortedKeys a,ρ,Q,σ=>wpE Γ a ρ (fun v σ=>on (dictAt σ v) fun kvs=>kvs.length < 64∧∀ ws,isPermSortedI ws (kvs.map (·.1))→newO (.list (ws.map .int)) Q σ) σ
  | .idx a b,ρ,Q,σ=>wpE Γ a ρ (fun v σ=>wpE Γ b ρ (fun w σ=>on (getAt σ v w) fun x=>Q x σ) σ) σ
  | .list es,ρ,Q,σ=>wpEs Γ es ρ (fun vs σ=>vs.length < 1000∧newO (.list vs) Q σ) σ
  | .tri a b c,ρ,Q,σ=>wpE Γ a ρ (fun v σ=>wpE Γ b ρ (fun w σ=>wpE Γ c ρ (fun x σ=>on v.asInt fun i=>on w.asInt fun j=>on x.asInt fun k=>Q (.tri i j k) σ) σ) σ) σ
  | .emptyDict,_,Q,σ=>newO (.dict []) Q σ
  | .comp x elt it,ρ,Q,σ=>wpE Γ it ρ (fun v σ=>on v.asRef fun l=>on (listAt σ v) fun vs=>vs.length < 1000 ∧
      compGo l vs (fun _ K σ=>K (.bool true) σ) (fun v K σ=>wpE Γ elt (ρ.set x (some v)) K σ) vs [] (fun ws σ=>newO (.list ws) Q σ) σ) σ
  | .compIf x elt it c,ρ,Q,σ=>wpE Γ it ρ (fun v σ=>on v.asRef fun l=>on (listAt σ v) fun vs=>vs.length < 1000 ∧
      compGo l vs (fun v K σ=>wpE Γ c (ρ.set x (some v)) K σ) (fun v K σ=>wpE Γ elt (ρ.set x (some v)) K σ) vs [] (fun ws σ=>newO (.list ws) Q σ) σ) σ
  | .append a b,ρ,Q,σ=>wpE Γ a ρ (fun v σ=>(listAt σ v).isSome = true∧wpE Γ b ρ (fun w σ=>on v.asRef fun l=>on (listAt σ v) fun vs=>vs.length < 1000∧Q .none (upd σ l (.list (vs ++ [w])))) σ) σ
  | .pop a,ρ,Q,σ=>wpE Γ a ρ (fun v σ=>on v.asRef fun l=>on (listAt σ v) fun vs=>vs.length < 2 ^ 20∧∃ r w,vs = r ++ [w]∧Q w (upd σ l (.list r))) σ
  | .get a k d,ρ,Q,σ=>wpE Γ a ρ (fun v σ=>(dictAt σ v).isSome = true∧wpE Γ k ρ (fun w σ=>wpE Γ d ρ (fun x σ=>on (dictAt σ v) fun kvs=>on w.asInt fun i=>Q ((dget kvs i).getD x) σ) σ) σ) σ
  | .rev a,ρ,Q,σ=>wpE Γ a ρ (fun v σ=>on (listAt σ v) fun vs=>vs.length < 2 ^ 20∧newO (.list vs.reverse) Q σ) σ
  | .upto a n,ρ,Q,σ=>wpE Γ a ρ (fun v σ=>on (listAt σ v) fun vs=>vs.length < 2 ^ 20∧newO (.list (vs.take n)) Q σ) σ
  | .from_ a n,ρ,Q,σ=>wpE Γ a ρ (fun v σ=>on (listAt σ v) fun vs=>vs.length < 2 ^ 20∧newO (.list (vs.drop n)) Q σ) σ
  | .cat a b,ρ,Q,σ=>wpE Γ a ρ (fun v σ=>wpE Γ b ρ (fun w σ=>on (listAt σ v) fun vs=>on (listAt σ w) fun ws=>vs.length < 2 ^ 20∧ws.length < 2 ^ 20∧newO (.list (vs ++ ws)) Q σ) σ) σ
  | .newNode es,ρ,Q,σ=>wpEs Γ es ρ (fun vs σ=>∃ n b e f r,vs = [.int n,.int b,.int e,.bool f,.bool r] ∧
      newO (.node { number:=n,begin_:=b,end_:=e,front:=f,rear:=r,limit:=e,offset:=0,red:=false,left:=.none,right:=.none,parent:=.none }) Q σ) σ
  | .given,_,Q,σ=>∀ is:List Int,is.length ≤ 63→newO (.list (is.map .int)) Q σ
  | .newTree,_,Q,σ=>newO (.tree ⟨.none,0⟩) Q σ
noncomputable def wpEs (Γ:Cal):Es→Lc→(List SV→Hp→Prop)→Hp→Prop
  | .nil,_,Q,σ=>Q [] σ
  | .cons e r,ρ,Q,σ=>wpE Γ e ρ (fun v σ=>wpEs Γ r ρ (fun vs σ=>Q (v :: vs) σ) σ) σ
end
inductive Fl where
  | next | ret (v:SV)
noncomputable def Fl.val:Fl→SV
  | .next=>.none
  | .ret v=>v
noncomputable def forGo (x:Nat) (B:(Fl→Lc→Hp→Prop)→Lc→Hp→Prop) (ok:Hp→Prop):List SV→(Fl→Lc→Hp→Prop)→Lc→Hp→Prop
  | [],Q,ρ,σ=>Q .next ρ σ
  | v :: r,Q,ρ,σ=>B (fun fl ρ σ=>match fl with | .next=>ok σ∧forGo x B ok r Q ρ σ | .ret w=>Q (.ret w) ρ σ) (ρ.set x (some v)) σ
noncomputable def whileW (T:(SV→Hp→Prop)→Lc→Hp→Prop) (B:(Fl→Lc→Hp→Prop)→Lc→Hp→Prop) (Q:Fl→Lc→Hp→Prop) (ρ:Lc) (σ:Hp):Prop :=
  ∀ I:Lc→Hp→Prop,(∀ ρ σ,T (fun v σ=>on v.asBool fun t=>if t then B (fun fl ρ σ=>match fl with | .next=>I ρ σ | .ret w=>Q (.ret w) ρ σ) ρ σ else Q .next ρ σ) ρ σ→I ρ σ)→I ρ σ
noncomputable def setMany:List Nat→List SV→Lc→Lc
  | x :: xs,v :: vs,ρ=>setMany xs vs (ρ.set x (some v))
  | _,_,ρ=>ρ
mutual
noncomputable def wpS (Γ:Cal):S→(Fl→Lc→Hp→Prop)→Lc→Hp→Prop
  | .bad,_,_,_=>False
  | .expr e,Q,ρ,σ=>wpE Γ e ρ (fun _ σ=>Q .next ρ σ) σ
  | .assign x e,Q,ρ,σ=>wpE Γ e ρ (fun v σ=>Q .next (ρ.set x (some v)) σ) σ
  | .setattr o f v,Q,ρ,σ=>wpE Γ v ρ (fun w σ=>wpE Γ o ρ (fun ov σ=>on (setF σ ov f w) fun σ=>Q .next ρ σ) σ) σ
  | .setidx o i v,Q,ρ,σ=>wpE Γ v ρ (fun w σ=>wpE Γ o ρ (fun ov σ=>wpE Γ i ρ (fun iv σ=>on (setAt σ ov iv w) fun σ=>Q .next ρ σ) σ) σ) σ
  | .delidx o i,Q,ρ,σ=>wpE Γ o ρ (fun ov σ=>wpE Γ i ρ (fun iv σ=>on ov.asRef fun d=>on (dictAt σ ov) fun kvs=>on iv.asInt fun k=>(dget kvs k).isSome = true∧kvs.length < 1000∧Q .next ρ (upd σ d (.dict (ddel kvs k)))) σ) σ
  | .asg xs es,Q,ρ,σ=>wpEs Γ es ρ (fun vs σ=>vs.length = xs.length∧Q .next (setMany xs.reverse vs.reverse ρ) σ) σ
  | .asgAttr2 o₁ f₁ o₂ f₂ a b,Q,ρ,σ=>wpE Γ a ρ (fun v σ=>wpE Γ b ρ (fun w σ =>
      wpE Γ o₁ ρ (fun p σ=>on (setF σ p f₁ v) fun σ=>wpE Γ o₂ ρ (fun q σ=>on (setF σ q f₂ w) fun σ=>Q .next ρ σ) σ) σ) σ) σ
  | .unpack xs e,Q,ρ,σ=>wpE Γ e ρ (fun v σ=>on (listAt σ v) fun vs=>vs.length = xs.length∧Q .next (setMany xs vs ρ) σ) σ
  | .asgTup xs es,Q,ρ,σ=>wpEs Γ es ρ (fun vs σ=>vs.length = xs.length∧Q .next (setMany xs vs ρ) σ) σ
  | .ite c a b,Q,ρ,σ=>wpE Γ c ρ (fun v σ=>on v.asBool fun t=>if t then wpSs Γ a Q ρ σ else wpSs Γ b Q ρ σ) σ
  | .while c b,Q,ρ,σ=>whileW (fun K ρ σ=>wpE Γ c ρ K σ) (fun K ρ σ=>wpSs Γ b K ρ σ) Q ρ σ
  | .forTup x a b body,Q,ρ,σ=>wpE Γ a ρ (fun v σ=>wpE Γ b ρ (fun w σ=>forGo x (fun K ρ σ=>wpSs Γ body K ρ σ) (fun _=>True) [v,w] Q ρ σ) σ) σ
  | .forList x e body,Q,ρ,σ=>wpE Γ e ρ (fun v σ=>on v.asRef fun l=>on (listAt σ v) fun vs=>forGo x (fun K ρ σ=>wpSs Γ body K ρ σ) (fun σ=>σ l = some (.list vs)) vs Q ρ σ) σ
  | .forRange x e body,Q,ρ,σ=>wpE Γ e ρ (fun v σ=>on v.asInt fun n=>0 ≤ n∧n < 1000∧forGo x (fun K ρ σ=>wpSs Γ body K ρ σ) (fun _=>True) ((List.range n.toNat).map fun (i:Nat)=>SV.int (i:Int)) Q ρ σ) σ
  | .ret e,Q,ρ,σ=>wpE Γ e ρ (fun v σ=>Q (.ret v) ρ σ) σ
  | .retNone,Q,ρ,σ=>Q (.ret .none) ρ σ
noncomputable def wpSs (Γ:Cal):Ss→(Fl→Lc→Hp→Prop)→Lc→Hp→Prop
  | .nil,Q,ρ,σ=>Q .next ρ σ
  | .cons s r,Q,ρ,σ=>wpS Γ s (fun fl ρ σ=>match fl with | .next=>wpSs Γ r Q ρ σ | .ret v=>Q (.ret v) ρ σ) ρ σ
end
structure FnD where
  args:Nat
  slots:Nat
  body:Ss
noncomputable def wpFn (tab:Fid→FnD):Nat→Cal
  | 0,_,_,_,_=>False
  | n + 1,f,vs,Q,σ=>vs.length = (tab f).args ∧
      wpSs (wpFn tab n) (tab f).body (fun fl _ σ'=>∃ σ'',Sub σ'' σ'∧Q fl.val σ'') (vs.map some ++ List.replicate ((tab f).slots - (tab f).args) none) σ
end Mine
namespace Mine
noncomputable def b_handDown:Ss:=(.cons (.ite (.cmp .eq (.attr (.var 0) .offset) (.int 0)) (.cons .retNone .nil) .nil) (.cons (.setattr (.var 0) .begin_ (.bin .add (.attr (.var 0) .begin_) (.attr (.var 0) .offset))) (.cons (.setattr (.var 0) .end_ (.bin .add (.attr (.var 0) .end_) (.attr (.var 0) .offset))) (.cons (.setattr (.var 0) .limit (.bin .add (.attr (.var 0) .limit) (.attr (.var 0) .offset))) (.cons (.forTup 1 (.attr (.var 0) .left) (.attr (.var 0) .right) (.cons (.ite (.is true (.var 1) .none) (.cons (.setattr (.var 1) .offset (.bin .add (.attr (.var 1) .offset) (.attr (.var 0) .offset))) .nil) .nil) .nil)) (.cons (.setattr (.var 0) .offset (.int 0)) .nil))))))
noncomputable def b_handDownTo:Ss:=(.cons (.assign 1 (.list .nil)) (.cons (.while (.is true (.var 0) .none) (.cons (.expr (.append (.var 1) (.var 0))) (.cons (.assign 0 (.attr (.var 0) .parent)) .nil))) (.cons (.forList 2 (.rev (.var 1)) (.cons (.expr (.call .handDown (.cons (.var 2) .nil))) .nil)) .nil)))
noncomputable def b_greatestEnd:Ss:=(.cons (.assign 1 (.attr (.var 0) .end_)) (.cons (.forTup 2 (.attr (.var 0) .left) (.attr (.var 0) .right) (.cons (.ite (.is true (.var 2) .none) (.cons (.assign 1 (.max (.var 1) (.bin .add (.attr (.var 2) .limit) (.attr (.var 2) .offset)))) .nil) .nil) .nil)) (.cons (.ret (.var 1)) .nil)))
noncomputable def b_renewLimits:Ss:=(.cons (.while (.is true (.var 0) .none) (.cons (.assign 1 (.call .greatestEnd (.cons (.var 0) .nil))) (.cons (.ite (.cmp .eq (.var 1) (.attr (.var 0) .limit)) (.cons .retNone .nil) .nil) (.cons (.setattr (.var 0) .limit (.var 1)) (.cons (.assign 0 (.attr (.var 0) .parent)) .nil))))) .nil)
noncomputable def b_hang:Ss:=(.cons (.ite (.is false (.var 1) .none) (.cons (.setattr (.var 0) .root (.var 3)) .nil) (.cons (.ite (.is false (.attr (.var 1) .left) (.var 2)) (.cons (.setattr (.var 1) .left (.var 3)) .nil) (.cons (.setattr (.var 1) .right (.var 3)) .nil)) .nil)) (.cons (.ite (.is true (.var 3) .none) (.cons (.setattr (.var 3) .parent (.var 1)) .nil) .nil) .nil))
noncomputable def b_turnLeft:Ss:=(.cons (.assign 2 (.attr (.var 1) .right)) (.cons (.expr (.call .handDown (.cons (.var 1) .nil))) (.cons (.expr (.call .handDown (.cons (.var 2) .nil))) (.cons (.setattr (.var 1) .right (.attr (.var 2) .left)) (.cons (.ite (.is true (.attr (.var 2) .left) .none) (.cons (.setattr (.attr (.var 2) .left) .parent (.var 1)) .nil) .nil) (.cons (.expr (.call .hang (.cons (.var 0) (.cons (.attr (.var 1) .parent) (.cons (.var 1) (.cons (.var 2) .nil)))))) (.cons (.setattr (.var 2) .left (.var 1)) (.cons (.setattr (.var 1) .parent (.var 2)) (.cons (.setattr (.var 1) .limit (.call .greatestEnd (.cons (.var 1) .nil))) (.cons (.setattr (.var 2) .limit (.call .greatestEnd (.cons (.var 2) .nil))) .nil))))))))))
noncomputable def b_turnRight:Ss:=(.cons (.assign 2 (.attr (.var 1) .left)) (.cons (.expr (.call .handDown (.cons (.var 1) .nil))) (.cons (.expr (.call .handDown (.cons (.var 2) .nil))) (.cons (.setattr (.var 1) .left (.attr (.var 2) .right)) (.cons (.ite (.is true (.attr (.var 2) .right) .none) (.cons (.setattr (.attr (.var 2) .right) .parent (.var 1)) .nil) .nil) (.cons (.expr (.call .hang (.cons (.var 0) (.cons (.attr (.var 1) .parent) (.cons (.var 1) (.cons (.var 2) .nil)))))) (.cons (.setattr (.var 2) .right (.var 1)) (.cons (.setattr (.var 1) .parent (.var 2)) (.cons (.setattr (.var 1) .limit (.call .greatestEnd (.cons (.var 1) .nil))) (.cons (.setattr (.var 2) .limit (.call .greatestEnd (.cons (.var 2) .nil))) .nil))))))))))
noncomputable def b_isRed:Ss:=(.cons (.ret (.and (.is true (.var 0) .none) (.attr (.var 0) .red))) .nil)
noncomputable def b_colourInserted:Ss:=(.cons (.while (.call .isRed (.cons (.attr (.var 1) .parent) .nil)) (.cons (.assign 2 (.attr (.var 1) .parent)) (.cons (.assign 3 (.attr (.var 2) .parent)) (.cons (.assign 4 (.is false (.attr (.var 3) .left) (.var 2))) (.cons (.assign 5 (.ite (.var 4) (.attr (.var 3) .right) (.attr (.var 3) .left))) (.cons (.ite (.call .isRed (.cons (.var 5) .nil)) (.cons (.setattr (.var 2) .red (.bool false)) (.cons (.setattr (.var 5) .red (.bool false)) (.cons (.setattr (.var 3) .red (.bool true)) (.cons (.assign 1 (.var 3)) .nil)))) (.cons (.assign 1 (.call .turnedInward (.cons (.var 0) (.cons (.var 1) (.cons (.var 4) .nil))))) (.cons (.setattr (.attr (.var 1) .parent) .red (.bool false)) (.cons (.setattr (.var 3) .red (.bool true)) (.cons (.ite (.var 4) (.cons (.expr (.call .turnRight (.cons (.var 0) (.cons (.var 3) .nil)))) .nil) (.cons (.expr (.call .turnLeft (.cons (.var 0) (.cons (.var 3) .nil)))) .nil)) .nil))))) .nil)))))) (.cons (.setattr (.attr (.var 0) .root) .red (.bool false)) .nil))
noncomputable def b_turnedInward:Ss:=(.cons (.assign 3 (.attr (.var 1) .parent)) (.cons (.ite (.and (.var 2) (.is false (.attr (.var 3) .right) (.var 1))) (.cons (.expr (.call .turnLeft (.cons (.var 0) (.cons (.var 3) .nil)))) (.cons (.ret (.var 3)) .nil)) .nil) (.cons (.ite (.and (.not (.var 2)) (.is false (.attr (.var 3) .left) (.var 1))) (.cons (.expr (.call .turnRight (.cons (.var 0) (.cons (.var 3) .nil)))) (.cons (.ret (.var 3)) .nil)) .nil) (.cons (.ret (.var 1)) .nil))))
noncomputable def b_putNode:Ss:=(.cons (.setattr (.var 0) .count (.bin .add (.attr (.var 0) .count) (.int 1))) (.cons (.setattr (.var 1) .left .none) (.cons (.setattr (.var 1) .right .none) (.cons (.setattr (.var 1) .parent .none) (.cons (.setattr (.var 1) .offset (.int 0)) (.cons (.setattr (.var 1) .limit (.attr (.var 1) .end_)) (.cons (.ite (.is false (.attr (.var 0) .root) .none) (.cons (.setattr (.var 1) .red (.bool false)) (.cons (.setattr (.var 0) .root (.var 1)) (.cons .retNone .nil))) .nil) (.cons (.assign 2 (.attr (.var 0) .root)) (.cons (.assign 3 .none) (.cons (.assign 4 (.bool false)) (.cons (.while (.is true (.var 2) .none) (.cons (.expr (.call .handDown (.cons (.var 2) .nil))) (.cons (.setattr (.var 2) .limit (.max (.attr (.var 2) .limit) (.attr (.var 1) .end_))) (.cons (.assign 3 (.var 2)) (.cons (.assign 4 (.cmp .le (.attr (.var 1) .begin_) (.attr (.var 2) .begin_))) (.cons (.assign 2 (.ite (.var 4) (.attr (.var 2) .left) (.attr (.var 2) .right))) .nil)))))) (.cons (.setattr (.var 1) .parent (.var 3)) (.cons (.ite (.var 4) (.cons (.setattr (.var 3) .left (.var 1)) .nil) (.cons (.setattr (.var 3) .right (.var 1)) .nil)) (.cons (.setattr (.var 1) .red (.bool true)) (.cons (.expr (.call .colourInserted (.cons (.var 0) (.cons (.var 1) .nil)))) .nil)))))))))))))))
noncomputable def b_firstBelow:Ss:=(.cons (.expr (.call .handDown (.cons (.var 0) .nil))) (.cons (.while (.is true (.attr (.var 0) .left) .none) (.cons (.assign 0 (.attr (.var 0) .left)) (.cons (.expr (.call .handDown (.cons (.var 0) .nil))) .nil))) (.cons (.ret (.var 0)) .nil)))
noncomputable def b_takePlace:Ss:=(.cons (.expr (.call .hang (.cons (.var 0) (.cons (.attr (.var 1) .parent) (.cons (.var 1) (.cons (.var 2) .nil)))))) (.cons (.setattr (.var 2) .left (.attr (.var 1) .left)) (.cons (.setattr (.var 2) .right (.attr (.var 1) .right)) (.cons (.setattr (.var 2) .red (.attr (.var 1) .red)) (.cons (.forTup 3 (.attr (.var 2) .left) (.attr (.var 2) .right) (.cons (.ite (.is true (.var 3) .none) (.cons (.setattr (.var 3) .parent (.var 2)) .nil) .nil) .nil)) (.cons (.setattr (.var 2) .limit (.call .greatestEnd (.cons (.var 2) .nil))) .nil))))))
noncomputable def b_dropNode:Ss:=(.cons (.setattr (.var 0) .count (.bin .sub (.attr (.var 0) .count) (.int 1))) (.cons (.expr (.call .handDownTo (.cons (.var 1) .nil))) (.cons (.assign 2 (.var 1)) (.cons (.ite (.and (.is true (.attr (.var 1) .left) .none) (.is true (.attr (.var 1) .right) .none)) (.cons (.assign 2 (.call .firstBelow (.cons (.attr (.var 1) .right) .nil))) .nil) .nil) (.cons (.assign 3 (.ite (.is true (.attr (.var 2) .left) .none) (.attr (.var 2) .left) (.attr (.var 2) .right))) (.cons (.assign 4 (.attr (.var 2) .parent)) (.cons (.assign 5 (.attr (.var 2) .red)) (.cons (.expr (.call .hang (.cons (.var 0) (.cons (.var 4) (.cons (.var 2) (.cons (.var 3) .nil)))))) (.cons (.ite (.is true (.var 2) (.var 1)) (.cons (.expr (.call .takePlace (.cons (.var 0) (.cons (.var 1) (.cons (.var 2) .nil))))) (.cons (.assign 4 (.ite (.is false (.var 4) (.var 1)) (.var 2) (.var 4))) .nil)) .nil) (.cons (.assign 6 (.var 4)) (.cons (.while (.is true (.var 6) .none) (.cons (.setattr (.var 6) .limit (.call .greatestEnd (.cons (.var 6) .nil))) (.cons (.assign 6 (.attr (.var 6) .parent)) .nil))) (.cons (.ite (.not (.var 5)) (.cons (.expr (.call .colourDropped (.cons (.var 0) (.cons (.var 3) (.cons (.var 4) .nil))))) .nil) .nil) (.cons (.setattr (.var 1) .left .none) (.cons (.setattr (.var 1) .right .none) (.cons (.setattr (.var 1) .parent .none) .nil)))))))))))))))
noncomputable def b_colourDropped:Ss:=(.cons (.while (.and (.is true (.var 1) (.attr (.var 0) .root)) (.not (.call .isRed (.cons (.var 1) .nil)))) (.cons (.assign 3 (.is false (.attr (.var 2) .left) (.var 1))) (.cons (.assign 1 (.call .lightened (.cons (.var 0) (.cons (.var 1) (.cons (.var 2) (.cons (.var 3) .nil)))))) (.cons (.ite (.is false (.var 1) .none) (.cons .retNone .nil) .nil) (.cons (.assign 2 (.attr (.var 1) .parent)) .nil))))) (.cons (.ite (.is true (.var 1) .none) (.cons (.setattr (.var 1) .red (.bool false)) .nil) .nil) .nil))
noncomputable def b_siblingOf:Ss:=(.cons (.ret (.ite (.var 1) (.attr (.var 0) .right) (.attr (.var 0) .left))) .nil)
noncomputable def b_turnTowards:Ss:=(.cons (.ite (.var 2) (.cons (.expr (.call .turnLeft (.cons (.var 0) (.cons (.var 1) .nil)))) .nil) (.cons (.expr (.call .turnRight (.cons (.var 0) (.cons (.var 1) .nil)))) .nil)) .nil)
noncomputable def b_lightened:Ss:=(.cons (.assign 4 (.call .siblingOf (.cons (.var 2) (.cons (.var 3) .nil)))) (.cons (.ite (.call .isRed (.cons (.var 4) .nil)) (.cons (.setattr (.var 4) .red (.bool false)) (.cons (.setattr (.var 2) .red (.bool true)) (.cons (.expr (.call .turnTowards (.cons (.var 0) (.cons (.var 2) (.cons (.var 3) .nil))))) (.cons (.assign 4 (.call .siblingOf (.cons (.var 2) (.cons (.var 3) .nil)))) .nil)))) .nil) (.cons (.assign 5 (.ite (.var 3) (.attr (.var 4) .right) (.attr (.var 4) .left))) (.cons (.assign 6 (.ite (.var 3) (.attr (.var 4) .left) (.attr (.var 4) .right))) (.cons (.ite (.and (.not (.call .isRed (.cons (.var 5) .nil))) (.not (.call .isRed (.cons (.var 6) .nil)))) (.cons (.setattr (.var 4) .red (.bool true)) (.cons (.ite (.or (.attr (.var 2) .red) (.is false (.var 2) (.attr (.var 0) .root))) (.cons (.setattr (.var 2) .red (.bool false)) (.cons (.ret .none) .nil)) .nil) (.cons (.ret (.var 2)) .nil))) .nil) (.cons (.ite (.not (.call .isRed (.cons (.var 5) .nil))) (.cons (.setattr (.var 6) .red (.bool false)) (.cons (.setattr (.var 4) .red (.bool true)) (.cons (.expr (.call .turnTowards (.cons (.var 0) (.cons (.var 4) (.cons (.not (.var 3)) .nil))))) (.cons (.assign 4 (.call .siblingOf (.cons (.var 2) (.cons (.var 3) .nil)))) (.cons (.assign 5 (.ite (.var 3) (.attr (.var 4) .right) (.attr (.var 4) .left))) .nil))))) .nil) (.cons (.setattr (.var 4) .red (.attr (.var 2) .red)) (.cons (.setattr (.var 2) .red (.bool false)) (.cons (.setattr (.var 5) .red (.bool false)) (.cons (.expr (.call .turnTowards (.cons (.var 0) (.cons (.var 2) (.cons (.var 3) .nil))))) (.cons (.ret .none) .nil)))))))))))
noncomputable def b_allNodesInOrder:Ss:=(.cons (.assign 1 (.list .nil)) (.cons (.assign 2 (.list .nil)) (.cons (.assign 3 (.attr (.var 0) .root)) (.cons (.while (.or (.is true (.var 3) .none) (.cmp .gt (.len (.var 2)) (.int 0))) (.cons (.while (.is true (.var 3) .none) (.cons (.expr (.call .handDown (.cons (.var 3) .nil))) (.cons (.expr (.append (.var 2) (.var 3))) (.cons (.assign 3 (.attr (.var 3) .left)) .nil)))) (.cons (.assign 3 (.pop (.var 2))) (.cons (.expr (.append (.var 1) (.var 3))) (.cons (.assign 3 (.attr (.var 3) .right)) .nil))))) (.cons (.ret (.var 1)) .nil)))))
noncomputable def b_nodesBetween:Ss:=(.cons (.assign 3 (.list .nil)) (.cons (.assign 4 (.list .nil)) (.cons (.assign 5 (.attr (.var 0) .root)) (.cons (.while (.or (.is true (.var 5) .none) (.cmp .gt (.len (.var 4)) (.int 0))) (.cons (.while (.is true (.var 5) .none) (.cons (.expr (.call .handDown (.cons (.var 5) .nil))) (.cons (.ite (.cmp .lt (.attr (.var 5) .limit) (.var 1)) (.cons (.assign 5 .none) .nil) (.cons (.expr (.append (.var 4) (.var 5))) (.cons (.assign 5 (.attr (.var 5) .left)) .nil))) .nil))) (.cons (.ite (.cmp .gt (.len (.var 4)) (.int 0)) (.cons (.assign 5 (.pop (.var 4))) (.cons (.ite (.and (.cmp .le (.attr (.var 5) .begin_) (.var 2)) (.cmp .ge (.attr (.var 5) .end_) (.var 1))) (.cons (.expr (.append (.var 3) (.var 5))) .nil) .nil) (.cons (.assign 5 (.ite (.cmp .le (.attr (.var 5) .begin_) (.var 2)) (.attr (.var 5) .right) .none)) .nil))) .nil) .nil))) (.cons (.ret (.var 3)) .nil)))))
noncomputable def b_beginsToMove:Ss:=(.cons (.ite (.cmp .ne (.attr (.var 0) .begin_) (.var 1)) (.cons (.ret (.bool false)) .nil) .nil) (.cons (.ite (.var 2) (.cons (.ret (.bool true)) .nil) .nil) (.cons (.ret (.and (.attr (.var 0) .front) (.or (.cmp .ne (.attr (.var 0) .begin_) (.attr (.var 0) .end_)) (.attr (.var 0) .rear)))) .nil)))
noncomputable def b_grows:Ss:=(.cons (.ret (.or (.cmp .gt (.attr (.var 0) .end_) (.var 1)) (.and (.cmp .eq (.attr (.var 0) .end_) (.var 1)) (.or (.var 2) (.attr (.var 0) .rear))))) .nil)
noncomputable def b_openGap:Ss:=(.cons (.ite (.cmp .le (.var 2) (.int 0)) (.cons .retNone .nil) .nil) (.cons (.assign 4 (.compIf 6 (.var 6) (.call .nodesBetween (.cons (.var 0) (.cons (.var 1) (.cons (.var 1) .nil)))) (.call .beginsToMove (.cons (.var 6) (.cons (.var 1) (.cons (.var 3) .nil)))))) (.cons (.forList 5 (.var 4) (.cons (.expr (.call .dropNode (.cons (.var 0) (.cons (.var 5) .nil)))) .nil)) (.cons (.expr (.call .shiftNodes (.cons (.var 0) (.cons (.var 1) (.cons (.var 2) (.cons (.var 3) .nil)))))) (.cons (.forList 5 (.var 4) (.cons (.ite (.or (.cmp .ne (.attr (.var 5) .end_) (.var 1)) (.or (.attr (.var 5) .rear) (.var 3))) (.cons (.setattr (.var 5) .end_ (.bin .add (.attr (.var 5) .end_) (.var 2))) .nil) .nil) (.cons (.setattr (.var 5) .begin_ (.bin .add (.attr (.var 5) .begin_) (.var 2))) (.cons (.expr (.call .putNode (.cons (.var 0) (.cons (.var 5) .nil)))) .nil)))) .nil)))))
noncomputable def b_shiftNodes:Ss:=(.cons (.assign 4 (.list (.cons (.attr (.var 0) .root) .nil))) (.cons (.while (.cmp .gt (.len (.var 4)) (.int 0)) (.cons (.assign 5 (.pop (.var 4))) (.cons (.ite (.is true (.var 5) .none) (.cons (.expr (.call .handDown (.cons (.var 5) .nil))) (.cons (.ite (.cmp .ge (.attr (.var 5) .limit) (.var 1)) (.cons (.ite (.and (.is true (.attr (.var 5) .right) .none) (.cmp .gt (.attr (.var 5) .begin_) (.var 1))) (.cons (.setattr (.attr (.var 5) .right) .offset (.bin .add (.attr (.attr (.var 5) .right) .offset) (.var 2))) .nil) (.cons (.expr (.append (.var 4) (.attr (.var 5) .right))) .nil)) (.cons (.expr (.append (.var 4) (.attr (.var 5) .left))) (.cons (.ite (.cmp .gt (.attr (.var 5) .begin_) (.var 1)) (.cons (.setattr (.var 5) .begin_ (.bin .add (.attr (.var 5) .begin_) (.var 2))) .nil) .nil) (.cons (.ite (.call .grows (.cons (.var 5) (.cons (.var 1) (.cons (.var 3) .nil)))) (.cons (.setattr (.var 5) .end_ (.bin .add (.attr (.var 5) .end_) (.var 2))) .nil) .nil) (.cons (.expr (.call .renewLimits (.cons (.var 5) .nil))) .nil))))) .nil) .nil)) .nil) .nil))) .nil))
noncomputable def b_closeGap:Ss:=(.cons (.ite (.cmp .le (.var 2) (.int 0)) (.cons .retNone .nil) .nil) (.cons (.assign 3 (.list (.cons (.attr (.var 0) .root) .nil))) (.cons (.while (.cmp .gt (.len (.var 3)) (.int 0)) (.cons (.assign 4 (.pop (.var 3))) (.cons (.ite (.is true (.var 4) .none) (.cons (.expr (.call .handDown (.cons (.var 4) .nil))) (.cons (.ite (.cmp .gt (.attr (.var 4) .limit) (.var 1)) (.cons (.ite (.and (.is true (.attr (.var 4) .right) .none) (.cmp .gt (.attr (.var 4) .begin_) (.bin .add (.var 1) (.var 2)))) (.cons (.setattr (.attr (.var 4) .right) .offset (.bin .sub (.attr (.attr (.var 4) .right) .offset) (.var 2))) .nil) (.cons (.expr (.append (.var 3) (.attr (.var 4) .right))) .nil)) (.cons (.expr (.append (.var 3) (.attr (.var 4) .left))) (.cons (.ite (.cmp .gt (.attr (.var 4) .begin_) (.var 1)) (.cons (.setattr (.var 4) .begin_ (.max (.var 1) (.bin .sub (.attr (.var 4) .begin_) (.var 2)))) .nil) .nil) (.cons (.ite (.cmp .gt (.attr (.var 4) .end_) (.var 1)) (.cons (.setattr (.var 4) .end_ (.max (.var 1) (.bin .sub (.attr (.var 4) .end_) (.var 2)))) .nil) .nil) (.cons (.expr (.call .renewLimits (.cons (.var 4) .nil))) .nil))))) .nil) .nil)) .nil) .nil))) .nil)))
noncomputable def b_blackHeight:Ss:=(.cons (.assign 2 (.ite (.is true (.attr (.var 0) .left) .none) (.get (.var 1) (.attr (.attr (.var 0) .left) .number) (.int 0)) (.int 0))) (.cons (.assign 3 (.ite (.is true (.attr (.var 0) .right) .none) (.get (.var 1) (.attr (.attr (.var 0) .right) .number) (.int 0)) (.int 0))) (.cons (.ite (.or (.cmp .lt (.var 2) (.int 0)) (.cmp .ne (.var 2) (.var 3))) (.cons (.ret (.negC 1)) .nil) .nil) (.cons (.ret (.ite (.attr (.var 0) .red) (.var 2) (.bin .add (.var 2) (.int 1)))) .nil))))
noncomputable def b_nodesFromBelow:Ss:=(.cons (.assign 1 (.list .nil)) (.cons (.assign 2 (.list (.cons (.attr (.var 0) .root) .nil))) (.cons (.while (.cmp .gt (.len (.var 2)) (.int 0)) (.cons (.assign 3 (.pop (.var 2))) (.cons (.ite (.is true (.var 3) .none) (.cons (.expr (.call .handDown (.cons (.var 3) .nil))) (.cons (.expr (.append (.var 1) (.var 3))) (.cons (.expr (.append (.var 2) (.attr (.var 3) .left))) (.cons (.expr (.append (.var 2) (.attr (.var 3) .right))) .nil)))) .nil) .nil))) (.cons (.ret (.rev (.var 1))) .nil))))
noncomputable def b_shapeError:Ss:=(.cons (.forTup 1 (.attr (.var 0) .left) (.attr (.var 0) .right) (.cons (.ite (.is true (.var 1) .none) (.cons (.ite (.is true (.attr (.var 1) .parent) (.var 0)) (.cons (.ret .bad) .nil) .nil) (.cons (.ite (.and (.attr (.var 0) .red) (.attr (.var 1) .red)) (.cons (.ret .bad) .nil) .nil) .nil)) .nil) .nil)) (.cons (.ite (.and (.is true (.attr (.var 0) .left) .none) (.cmp .gt (.attr (.attr (.var 0) .left) .begin_) (.attr (.var 0) .begin_))) (.cons (.ret .bad) .nil) .nil) (.cons (.ite (.and (.is true (.attr (.var 0) .right) .none) (.cmp .lt (.attr (.attr (.var 0) .right) .begin_) (.attr (.var 0) .begin_))) (.cons (.ret .bad) .nil) .nil) (.cons (.ret (.ite (.cmp .ne (.attr (.var 0) .limit) (.call .greatestEnd (.cons (.var 0) .nil))) .bad .none)) .nil))))
noncomputable def b_overlayTreeError:Ss:=(.cons (.assign 1 .emptyDict) (.cons (.assign 2 (.call .nodesFromBelow (.cons (.var 0) .nil))) (.cons (.ite (.cmp .ne (.len (.var 2)) (.attr (.var 0) .count)) (.cons (.ret .bad) .nil) .nil) (.cons (.forList 3 (.var 2) (.cons (.assign 4 (.call .shapeError (.cons (.var 3) .nil))) (.cons (.ite (.is true (.var 4) .none) (.cons (.ret (.var 4)) .nil) .nil) (.cons (.setidx (.var 1) (.attr (.var 3) .number) (.call .blackHeight (.cons (.var 3) (.cons (.var 1) .nil)))) (.cons (.ite (.cmp .lt (.idx (.var 1) (.attr (.var 3) .number)) (.int 0)) (.cons (.ret .bad) .nil) .nil) .nil))))) (.cons (.ret (.ite (.and (.is true (.attr (.var 0) .root) .none) (.or (.attr (.attr (.var 0) .root) .red) (.is true (.attr (.attr (.var 0) .root) .parent) .none))) .bad .none)) .nil)))))
noncomputable def b_lawDraw:Ss:=(.cons (.setidx (.var 0) (.int 1) (.bin .add (.idx (.var 0) (.int 1)) (.int 1))) (.cons (.ite (.cmp .le (.idx (.var 0) (.int 1)) (.len (.idx (.var 0) (.int 0)))) (.cons (.ret (.bin .mod (.idx (.idx (.var 0) (.int 0)) (.bin .sub (.idx (.var 0) (.int 1)) (.int 1))) (.var 1))) .nil) .nil) (.cons (.ret (.bin .mod (.bin .fdiv (.bin .add (.bin .add (.bin .mul (.bin .mul (.idx (.var 0) (.int 1)) (.idx (.var 0) (.int 1))) (.int 41)) (.bin .mul (.int 13) (.idx (.var 0) (.int 1)))) (.bin .mul (.int 5) (.len (.idx (.var 0) (.int 0))))) (.int 3)) (.var 1))) .nil)))
noncomputable def b_lawLaid:Ss:=(.cons (.asg [4,5] (.cons (.call .lawDraw (.cons (.var 0) (.cons (.int 20) .nil))) (.cons (.call .lawDraw (.cons (.var 0) (.cons (.int 5) .nil))) .nil))) (.cons (.asg [6,7] (.cons (.cmp .eq (.call .lawDraw (.cons (.var 0) (.cons (.int 2) .nil))) (.int 1)) (.cons (.cmp .eq (.call .lawDraw (.cons (.var 0) (.cons (.int 2) .nil))) (.int 1)) .nil))) (.cons (.assign 8 (.len (.var 2))) (.cons (.expr (.append (.var 2) (.newNode (.cons (.var 8) (.cons (.var 4) (.cons (.bin .add (.var 4) (.var 5)) (.cons (.var 6) (.cons (.var 7) .nil)))))))) (.cons (.setidx (.var 3) (.var 8) (.list (.cons (.var 4) (.cons (.bin .add (.var 4) (.var 5)) (.cons (.var 6) (.cons (.var 7) .nil)))))) (.cons (.expr (.call .putNode (.cons (.var 1) (.cons (.idx (.var 2) (.var 8)) .nil)))) .nil))))))
noncomputable def b_lawCame:Ss:=(.cons (.unpack [4,5,6,7] (.var 0)) (.cons (.assign 8 (.or (.cmp .gt (.var 4) (.var 1)) (.and (.cmp .eq (.var 4) (.var 1)) (.or (.var 3) (.and (.var 6) (.or (.cmp .ne (.var 4) (.var 5)) (.var 7))))))) (.cons (.assign 9 (.or (.cmp .gt (.var 5) (.var 1)) (.and (.cmp .eq (.var 5) (.var 1)) (.or (.var 3) (.var 7))))) (.cons (.ret (.list (.cons (.ite (.var 8) (.bin .add (.var 4) (.var 2)) (.var 4)) (.cons (.ite (.var 9) (.bin .add (.var 5) (.var 2)) (.var 5)) (.cons (.var 6) (.cons (.var 7) .nil)))))) .nil))))
noncomputable def b_lawWent:Ss:=(.cons (.assign 3 (.comp 4 (.ite (.cmp .le (.var 4) (.var 1)) (.var 4) (.max (.var 1) (.bin .sub (.var 4) (.var 2)))) (.upto (.var 0) 2))) (.cons (.ret (.cat (.var 3) (.from_ (.var 0) 2))) .nil))
noncomputable def b_lawDone:Ss:=(.cons (.assign 4 (.call .lawDraw (.cons (.var 0) (.cons (.int 6) .nil)))) (.cons (.assign 5 (.sortedKeys (.var 3))) (.cons (.ite (.or (.cmp .lt (.var 4) (.int 2)) (.eqL false (.var 5) (.list .nil))) (.cons (.expr (.call .lawLaid (.cons (.var 0) (.cons (.var 1) (.cons (.var 2) (.cons (.var 3) .nil)))))) .nil) (.cons (.ite (.cmp .eq (.var 4) (.int 2)) (.cons (.assign 6 (.idx (.var 5) (.call .lawDraw (.cons (.var 0) (.cons (.len (.var 5)) .nil))))) (.cons (.expr (.call .dropNode (.cons (.var 1) (.cons (.idx (.var 2) (.var 6)) .nil)))) (.cons (.delidx (.var 3) (.var 6)) .nil))) (.cons (.ite (.cmp .eq (.var 4) (.int 3)) (.cons (.asg [6,7,8] (.cons (.idx (.var 5) (.call .lawDraw (.cons (.var 0) (.cons (.len (.var 5)) .nil)))) (.cons (.call .lawDraw (.cons (.var 0) (.cons (.int 20) .nil))) (.cons (.call .lawDraw (.cons (.var 0) (.cons (.int 5) .nil))) .nil)))) (.cons (.expr (.call .dropNode (.cons (.var 1) (.cons (.idx (.var 2) (.var 6)) .nil)))) (.cons (.asgAttr2 (.idx (.var 2) (.var 6)) .begin_ (.idx (.var 2) (.var 6)) .end_ (.var 7) (.bin .add (.var 7) (.var 8))) (.cons (.expr (.call .putNode (.cons (.var 1) (.cons (.idx (.var 2) (.var 6)) .nil)))) (.cons (.setidx (.var 3) (.var 6) (.cat (.list (.cons (.var 7) (.cons (.bin .add (.var 7) (.var 8)) .nil))) (.from_ (.idx (.var 3) (.var 6)) 2))) .nil))))) (.cons (.ite (.cmp .eq (.var 4) (.int 4)) (.cons (.asg [9,8,10] (.cons (.call .lawDraw (.cons (.var 0) (.cons (.int 24) .nil))) (.cons (.bin .add (.int 1) (.call .lawDraw (.cons (.var 0) (.cons (.int 3) .nil)))) (.cons (.cmp .eq (.call .lawDraw (.cons (.var 0) (.cons (.int 3) .nil))) (.int 2)) .nil)))) (.cons (.expr (.call .openGap (.cons (.var 1) (.cons (.var 9) (.cons (.var 8) (.cons (.var 10) .nil)))))) (.cons (.forList 6 (.var 5) (.cons (.setidx (.var 3) (.var 6) (.call .lawCame (.cons (.idx (.var 3) (.var 6)) (.cons (.var 9) (.cons (.var 8) (.cons (.var 10) .nil)))))) .nil)) .nil))) (.cons (.asg [9,8] (.cons (.call .lawDraw (.cons (.var 0) (.cons (.int 24) .nil))) (.cons (.bin .add (.int 1) (.call .lawDraw (.cons (.var 0) (.cons (.int 6) .nil)))) .nil))) (.cons (.expr (.call .closeGap (.cons (.var 1) (.cons (.var 9) (.cons (.var 8) .nil))))) (.cons (.forList 6 (.var 5) (.cons (.setidx (.var 3) (.var 6) (.call .lawWent (.cons (.idx (.var 3) (.var 6)) (.cons (.var 9) (.cons (.var 8) .nil))))) .nil)) .nil)))) .nil)) .nil)) .nil)) .nil)))
noncomputable def b_lawIsRight:Ss:=(.cons (.assign 3 (.call .lawDraw (.cons (.var 0) (.cons (.int 24) .nil)))) (.cons (.assign 4 (.bin .add (.var 3) (.call .lawDraw (.cons (.var 0) (.cons (.int 6) .nil))))) (.cons (.assign 5 (.comp 8 (.attr (.var 8) .number) (.call .nodesBetween (.cons (.var 1) (.cons (.var 3) (.cons (.var 4) .nil)))))) (.cons (.assign 6 (.compIf 8 (.var 8) (.sortedKeys (.var 2)) (.and (.cmp .le (.idx (.idx (.var 2) (.var 8)) (.int 0)) (.var 4)) (.cmp .ge (.idx (.idx (.var 2) (.var 8)) (.int 1)) (.var 3))))) (.cons (.ite (.or (.eqL true (.sorted (.var 5)) (.var 6)) (.eqL true (.comp 8 (.idx (.idx (.var 2) (.var 8)) (.int 0)) (.var 5)) (.sorted (.comp 8 (.idx (.idx (.var 2) (.var 8)) (.int 0)) (.var 6))))) (.cons (.ret (.bool false)) .nil) .nil) (.cons (.assign 7 (.call .allNodesInOrder (.cons (.var 1) .nil))) (.cons (.ite (.eqL true (.sorted (.comp 8 (.tri (.attr (.var 8) .number) (.attr (.var 8) .begin_) (.attr (.var 8) .end_)) (.var 7))) (.comp 8 (.tri (.var 8) (.idx (.idx (.var 2) (.var 8)) (.int 0)) (.idx (.idx (.var 2) (.var 8)) (.int 1))) (.sortedKeys (.var 2)))) (.cons (.ret (.bool false)) .nil) .nil) (.cons (.ret (.is false (.call .overlayTreeError (.cons (.var 1) .nil)) .none)) .nil))))))))
noncomputable def b_lawR:Ss:=(.cons (.forRange 5 (.bin .add (.int 2) (.call .lawDraw (.cons (.var 1) (.cons (.int 9) .nil)))) (.cons (.expr (.call .lawDone (.cons (.var 1) (.cons (.var 2) (.cons (.var 3) (.cons (.var 4) .nil)))))) (.cons (.ite (.not (.call .lawIsRight (.cons (.var 1) (.cons (.var 2) (.cons (.var 4) .nil))))) (.cons (.ret (.bool false)) .nil) .nil) .nil))) (.cons (.ret (.bool true)) .nil))
noncomputable def b_law:Ss:=.cons (.asgTup [1,2,3,4] (.cons (.list (.cons (.comp 6 (.abs (.var 6)) .given) (.cons (.int 0) .nil))) (.cons .newTree (.cons (.list .nil) (.cons .emptyDict .nil))))) b_lawR
noncomputable def fnD:Fid→FnD
  | .handDown=>⟨1,2,b_handDown⟩
  | .handDownTo=>⟨1,3,b_handDownTo⟩
  | .greatestEnd=>⟨1,3,b_greatestEnd⟩
  | .renewLimits=>⟨1,2,b_renewLimits⟩
  | .hang=>⟨4,4,b_hang⟩
  | .turnLeft=>⟨2,3,b_turnLeft⟩
  | .turnRight=>⟨2,3,b_turnRight⟩
  | .isRed=>⟨1,1,b_isRed⟩
  | .colourInserted=>⟨2,6,b_colourInserted⟩
  | .turnedInward=>⟨3,4,b_turnedInward⟩
  | .putNode=>⟨2,5,b_putNode⟩
  | .firstBelow=>⟨1,1,b_firstBelow⟩
  | .takePlace=>⟨3,4,b_takePlace⟩
  | .dropNode=>⟨2,7,b_dropNode⟩
  | .colourDropped=>⟨3,4,b_colourDropped⟩
  | .siblingOf=>⟨2,2,b_siblingOf⟩
  | .turnTowards=>⟨3,3,b_turnTowards⟩
  | .lightened=>⟨4,7,b_lightened⟩
  | .allNodesInOrder=>⟨1,4,b_allNodesInOrder⟩
  | .nodesBetween=>⟨3,6,b_nodesBetween⟩
  | .beginsToMove=>⟨3,3,b_beginsToMove⟩
  | .grows=>⟨3,3,b_grows⟩
  | .openGap=>⟨4,7,b_openGap⟩
  | .shiftNodes=>⟨4,6,b_shiftNodes⟩
  | .closeGap=>⟨3,5,b_closeGap⟩
  | .blackHeight=>⟨2,4,b_blackHeight⟩
  | .nodesFromBelow=>⟨1,4,b_nodesFromBelow⟩
  | .shapeError=>⟨1,2,b_shapeError⟩
  | .overlayTreeError=>⟨1,5,b_overlayTreeError⟩
  | .lawDraw=>⟨2,2,b_lawDraw⟩
  | .lawLaid=>⟨4,9,b_lawLaid⟩
  | .lawCame=>⟨4,10,b_lawCame⟩
  | .lawWent=>⟨3,5,b_lawWent⟩
  | .lawDone=>⟨4,11,b_lawDone⟩
  | .lawIsRight=>⟨3,9,b_lawIsRight⟩
end Mine
section
section
namespace Mine
noncomputable def Fid.nm:Fid→PySem.Str
  | .handDown=>PySem.Str.ofString "hand_down"
  | .handDownTo=>PySem.Str.ofString "hand_down_to"
  | .greatestEnd=>PySem.Str.ofString "greatest_end"
  | .renewLimits=>PySem.Str.ofString "renew_limits"
  | .hang=>PySem.Str.ofString "hang"
  | .turnLeft=>PySem.Str.ofString "turn_left"
  | .turnRight=>PySem.Str.ofString "turn_right"
  | .isRed=>PySem.Str.ofString "is_red"
  | .colourInserted=>PySem.Str.ofString "colour_inserted"
  | .turnedInward=>PySem.Str.ofString "turned_inward"
  | .putNode=>PySem.Str.ofString "put_node"
  | .firstBelow=>PySem.Str.ofString "first_below"
  | .takePlace=>PySem.Str.ofString "take_place"
  | .dropNode=>PySem.Str.ofString "drop_node"
  | .colourDropped=>PySem.Str.ofString "colour_dropped"
  | .siblingOf=>PySem.Str.ofString "sibling_of"
  | .turnTowards=>PySem.Str.ofString "turn_towards"
  | .lightened=>PySem.Str.ofString "lightened"
  | .allNodesInOrder=>PySem.Str.ofString "all_nodes_in_order"
  | .nodesBetween=>PySem.Str.ofString "nodes_between"
  | .beginsToMove=>PySem.Str.ofString "begins_to_move"
  | .grows=>PySem.Str.ofString "grows"
  | .openGap=>PySem.Str.ofString "open_gap"
  | .shiftNodes=>PySem.Str.ofString "shift_nodes"
  | .closeGap=>PySem.Str.ofString "close_gap"
  | .blackHeight=>PySem.Str.ofString "black_height"
  | .nodesFromBelow=>PySem.Str.ofString "nodes_from_below"
  | .shapeError=>PySem.Str.ofString "shape_error"
  | .overlayTreeError=>PySem.Str.ofString "overlay_tree_error"
  | .lawDraw=>PySem.Str.ofString "_law_draw"
  | .lawLaid=>PySem.Str.ofString "_law_laid"
  | .lawCame=>PySem.Str.ofString "_law_came"
  | .lawWent=>PySem.Str.ofString "_law_went"
  | .lawDone=>PySem.Str.ofString "_law_done"
  | .lawIsRight=>PySem.Str.ofString "_law_is_right"
noncomputable def slotsOf:Fid→List (Option PySem.Str)
  | .handDown=>[some (PySem.Str.ofString "node"),some (PySem.Str.ofString "son")]
  | .handDownTo=>[some (PySem.Str.ofString "node"),some (PySem.Str.ofString "path"),some (PySem.Str.ofString "here")]
  | .greatestEnd=>[some (PySem.Str.ofString "node"),some (PySem.Str.ofString "found"),some (PySem.Str.ofString "son")]
  | .renewLimits=>[some (PySem.Str.ofString "node"),some (PySem.Str.ofString "limit")]
  | .hang=>[some (PySem.Str.ofString "tree"),some (PySem.Str.ofString "parent"),some (PySem.Str.ofString "node"),some (PySem.Str.ofString "other")]
  | .turnLeft=>[some (PySem.Str.ofString "tree"),some (PySem.Str.ofString "node"),some (PySem.Str.ofString "son")]
  | .turnRight=>[some (PySem.Str.ofString "tree"),some (PySem.Str.ofString "node"),some (PySem.Str.ofString "son")]
  | .isRed=>[some (PySem.Str.ofString "node")]
  | .colourInserted=>[some (PySem.Str.ofString "tree"),some (PySem.Str.ofString "node"),some (PySem.Str.ofString "parent"),some (PySem.Str.ofString "above"),some (PySem.Str.ofString "is_left"),some (PySem.Str.ofString "uncle")]
  | .turnedInward=>[some (PySem.Str.ofString "tree"),some (PySem.Str.ofString "node"),some (PySem.Str.ofString "is_left"),some (PySem.Str.ofString "parent")]
  | .putNode=>[some (PySem.Str.ofString "tree"),some (PySem.Str.ofString "node"),some (PySem.Str.ofString "here"),some (PySem.Str.ofString "parent"),some (PySem.Str.ofString "is_left")]
  | .firstBelow=>[some (PySem.Str.ofString "node")]
  | .takePlace=>[some (PySem.Str.ofString "tree"),some (PySem.Str.ofString "node"),some (PySem.Str.ofString "other"),some (PySem.Str.ofString "son")]
  | .dropNode=>[some (PySem.Str.ofString "tree"),some (PySem.Str.ofString "node"),some (PySem.Str.ofString "gone"),some (PySem.Str.ofString "son"),some (PySem.Str.ofString "parent"),some (PySem.Str.ofString "was_red"),some (PySem.Str.ofString "here")]
  | .colourDropped=>[some (PySem.Str.ofString "tree"),some (PySem.Str.ofString "node"),some (PySem.Str.ofString "parent"),some (PySem.Str.ofString "is_left")]
  | .siblingOf=>[some (PySem.Str.ofString "parent"),some (PySem.Str.ofString "is_left")]
  | .turnTowards=>[some (PySem.Str.ofString "tree"),some (PySem.Str.ofString "node"),some (PySem.Str.ofString "is_left")]
  | .lightened=>[some (PySem.Str.ofString "tree"),some (PySem.Str.ofString "node"),some (PySem.Str.ofString "parent"),some (PySem.Str.ofString "is_left"),some (PySem.Str.ofString "other"),some (PySem.Str.ofString "outer"),some (PySem.Str.ofString "inner")]
  | .allNodesInOrder=>[some (PySem.Str.ofString "tree"),some (PySem.Str.ofString "found"),some (PySem.Str.ofString "waiting"),some (PySem.Str.ofString "node")]
  | .nodesBetween=>[some (PySem.Str.ofString "tree"),some (PySem.Str.ofString "begin"),some (PySem.Str.ofString "end"),some (PySem.Str.ofString "found"),some (PySem.Str.ofString "waiting"),some (PySem.Str.ofString "node")]
  | .beginsToMove=>[some (PySem.Str.ofString "node"),some (PySem.Str.ofString "at"),some (PySem.Str.ofString "before_markers")]
  | .grows=>[some (PySem.Str.ofString "node"),some (PySem.Str.ofString "at"),some (PySem.Str.ofString "before_markers")]
  | .openGap=>[some (PySem.Str.ofString "tree"),some (PySem.Str.ofString "at"),some (PySem.Str.ofString "many"),some (PySem.Str.ofString "before_markers"),some (PySem.Str.ofString "moving"),some (PySem.Str.ofString "node"),none]
  | .shiftNodes=>[some (PySem.Str.ofString "tree"),some (PySem.Str.ofString "at"),some (PySem.Str.ofString "many"),some (PySem.Str.ofString "before_markers"),some (PySem.Str.ofString "waiting"),some (PySem.Str.ofString "node")]
  | .closeGap=>[some (PySem.Str.ofString "tree"),some (PySem.Str.ofString "at"),some (PySem.Str.ofString "many"),some (PySem.Str.ofString "waiting"),some (PySem.Str.ofString "node")]
  | .blackHeight=>[some (PySem.Str.ofString "node"),some (PySem.Str.ofString "heights"),some (PySem.Str.ofString "left"),some (PySem.Str.ofString "right")]
  | .nodesFromBelow=>[some (PySem.Str.ofString "tree"),some (PySem.Str.ofString "found"),some (PySem.Str.ofString "waiting"),some (PySem.Str.ofString "node")]
  | .shapeError=>[some (PySem.Str.ofString "node"),some (PySem.Str.ofString "son")]
  | .overlayTreeError=>[some (PySem.Str.ofString "tree"),some (PySem.Str.ofString "heights"),some (PySem.Str.ofString "nodes"),some (PySem.Str.ofString "node"),some (PySem.Str.ofString "found")]
  | .lawDraw=>[some (PySem.Str.ofString "deck"),some (PySem.Str.ofString "many")]
  | .lawLaid=>[some (PySem.Str.ofString "deck"),some (PySem.Str.ofString "tree"),some (PySem.Str.ofString "nodes"),some (PySem.Str.ofString "own"),some (PySem.Str.ofString "begin"),some (PySem.Str.ofString "many"),some (PySem.Str.ofString "front"),some (PySem.Str.ofString "rear"),some (PySem.Str.ofString "number")]
  | .lawCame=>[some (PySem.Str.ofString "row"),some (PySem.Str.ofString "at"),some (PySem.Str.ofString "many"),some (PySem.Str.ofString "ahead"),some (PySem.Str.ofString "begin"),some (PySem.Str.ofString "end"),some (PySem.Str.ofString "front"),some (PySem.Str.ofString "rear"),some (PySem.Str.ofString "moves"),some (PySem.Str.ofString "my_grows")]
  | .lawWent=>[some (PySem.Str.ofString "row"),some (PySem.Str.ofString "at"),some (PySem.Str.ofString "many"),some (PySem.Str.ofString "places"),none]
  | .lawDone=>[some (PySem.Str.ofString "deck"),some (PySem.Str.ofString "tree"),some (PySem.Str.ofString "nodes"),some (PySem.Str.ofString "own"),some (PySem.Str.ofString "way"),some (PySem.Str.ofString "numbers"),some (PySem.Str.ofString "number"),some (PySem.Str.ofString "begin"),some (PySem.Str.ofString "many"),some (PySem.Str.ofString "at"),some (PySem.Str.ofString "ahead")]
  | .lawIsRight=>[some (PySem.Str.ofString "deck"),some (PySem.Str.ofString "tree"),some (PySem.Str.ofString "own"),some (PySem.Str.ofString "begin"),some (PySem.Str.ofString "end"),some (PySem.Str.ofString "found"),some (PySem.Str.ofString "due"),some (PySem.Str.ofString "nodes"),none]
noncomputable def slotsLaw:List (Option PySem.Str):=[some (PySem.Str.ofString "script"),some (PySem.Str.ofString "deck"),some (PySem.Str.ofString "tree"),some (PySem.Str.ofString "nodes"),some (PySem.Str.ofString "own"),some (PySem.Str.ofString "my_turn"),none]
noncomputable def Fld.nm:Fld→PySem.Str
  | .number=>PySem.Str.ofString "number"
  | .begin_=>PySem.Str.ofString "begin"
  | .end_=>PySem.Str.ofString "end"
  | .front=>PySem.Str.ofString "front_advance"
  | .rear=>PySem.Str.ofString "rear_advance"
  | .limit=>PySem.Str.ofString "limit"
  | .offset=>PySem.Str.ofString "offset"
  | .red=>PySem.Str.ofString "is_red"
  | .left=>PySem.Str.ofString "left"
  | .right=>PySem.Str.ofString "right"
  | .parent=>PySem.Str.ofString "parent"
  | .root=>PySem.Str.ofString "root"
  | .count=>PySem.Str.ofString "count"
end Mine
namespace Mine
open PySem
noncomputable def sort_:PySem.Expr→Nat
  | .ListComp ..=>1
  | .SetComp ..=>1
  | .DictComp ..=>1
  | .Starred ..=>2
  | .Call ..=>3
  | .Set ..=>4
  | .Slice ..=>5
  | _=>0
noncomputable def notComp (p:PySem.Expr):Bool:=!Nat.beq (sort_ p) 1
noncomputable def notStar (p:PySem.Expr):Bool:=!Nat.beq (sort_ p) 2
noncomputable def notCall (p:PySem.Expr):Bool:=!Nat.beq (sort_ p) 3
noncomputable def notSet (p:PySem.Expr):Bool:=!Nat.beq (sort_ p) 4
noncomputable def notSlice (p:PySem.Expr):Bool:=!Nat.beq (sort_ p) 5
noncomputable def AOp.py:AOp→Operator
  | .add=>.Add | .sub=>.Sub | .mul=>.Mult | .fdiv=>.FloorDiv | .mod=>.Mod
noncomputable def COp.py:COp→CmpOp
  | .eq=>.Eq | .ne=>.NotEq | .lt=>.Lt | .le=>.LtE | .gt=>.Gt | .ge=>.GtE
noncomputable abbrev Nms:=List (Str × NameKind)
noncomputable abbrev Sls:=List (Option Str)
noncomputable def varOk (ns:Nms) (sl:Sls) (i:Nat) (x:Str):Bool :=
  sl[i]? == some (some x) && (ns.lookup x == some .local || ns.lookup x == some .cell) && !(x == ("__debug__":Str))
noncomputable def globOk (ns:Nms) (x:Str):Bool:=ns.lookup x == some .globalImplicit && !(x == ("__debug__":Str))
noncomputable def compSl (ns cs:Nms) (sl:Sls) (x:Nat) (xn:Str):Sls :=
  (sl.set x (some xn)).mapIdx fun i o=>if i = x then o else match o with
    | some y=>if ns.lookup y == some .cell && cs.lookup y == some .free then some y else none
    | none=>none
noncomputable def compNs (ns cs:Nms):Nms:=cs.map fun y=>if y.2 == .free && ns.lookup y.1 == some .cell then (y.1,.cell) else y
noncomputable def compScOk (ns:Nms) (xn:Str) (sc:Scope):Bool :=
  sc.kind == .function && sc.names.all (fun y=>y.2 != .cell) && sc.names.all (fun y=>y.2 != .local || sc.names.lookup y.1 == some .local) &&
  sc.names.lookup xn == some .local && sc.names.all (fun y=>y.2 != .free || ns.lookup y.1 == some .cell)
noncomputable def stOk (ns:Nms) (sl:Sls) (i:Nat) (x:Str):Bool:=sl[i]? == some (some x) && (ns.lookup x == some .local || ns.lookup x == some .cell)
noncomputable def locOk (ns:Nms) (sl:Sls) (i:Nat) (x:Str):Bool:=sl[i]? == some (some x) && ns.lookup x == some .local
noncomputable def namesOk (ns:Nms) (sl:Sls):List Nat→List PySem.Expr→Bool
  | [],[]=>true
  | i :: is,.Name x _ :: ps=>locOk ns sl i x && namesOk ns sl is ps
  | _,_=>false
noncomputable def namesOf:List PySem.Expr→List Str
  | .Name x _ :: ps=>x :: namesOf ps
  | _=>[]
noncomputable def linesOk (l:Nat):List PySem.Expr→Bool
  | []=>true
  | .Name _ p :: ps=>p.line == l && linesOk l ps
  | _=>false
noncomputable def asgOk (ts vs:List PySem.Expr):Bool :=
  (ts.length == 2 || ts.length == 3) && vs.length == ts.length && linesOk ((ts.head?.map (·.pos.line)).getD 0) ts && (namesOf ts).eraseDups.length == ts.length &&
  !vs.all (constantsAlone 8) && !vs.all (foldedForSure 8)
inductive Vw where
  | bad | none | bool (b:Bool) | int (i:Int) | neg (i:Int) | name (x:Str) | attr (v:PySem.Expr) (n:Str) | bin (l:PySem.Expr) (o:Operator) (r:PySem.Expr)
  | cmp (l:PySem.Expr) (o:CmpOp) (r:PySem.Expr) | not (v:PySem.Expr) | and2 (p q:PySem.Expr) | or2 (p q:PySem.Expr) | ite (t x y:PySem.Expr) | call (x:Str) (args:List PySem.Expr)
  | meth (o:PySem.Expr) (n:Str) (args:List PySem.Expr) | sub (p q:PySem.Expr) | rev (p:PySem.Expr) | upto (p:PySem.Expr) (i:Int) | from_ (p:PySem.Expr) (i:Int)
  | list (ps:List PySem.Expr) | tri (p q r:PySem.Expr) | dict0 | comp (pe:PySem.Expr) (xn:Str) (pit:PySem.Expr) (sc:Scope) | compIf (pe:PySem.Expr) (xn:Str) (pit pc:PySem.Expr) (sc:Scope)
inductive Spec:PySem.Expr→Vw→Prop
  | bad {p:PySem.Expr}:Spec p .bad
  | none {k:Nat} {pos:Pos}:Spec (.Constant .none k pos) .none
  | bool {b:Bool} {k:Nat} {pos:Pos}:Spec (.Constant (.bool b) k pos) (.bool b)
  | int {i:Int} {k:Nat} {pos:Pos}:Spec (.Constant (.int i) k pos) (.int i)
  | neg {i:Int} {k:Nat} {pos pos':Pos}:Spec (.UnaryOp .USub (.Constant (.int i) k pos) pos') (.neg i)
  | name {x:Str} {pos:Pos}:Spec (.Name x pos) (.name x)
  | attr {v:PySem.Expr} {n:Str} {pos:Pos}:Spec (.Attribute v n pos) (.attr v n)
  | bin {l:PySem.Expr} {o:Operator} {r:PySem.Expr} {pos:Pos}:Spec (.BinOp l o r pos) (.bin l o r)
  | cmp {l:PySem.Expr} {o:CmpOp} {r:PySem.Expr} {pos:Pos}:Spec (.Compare l [o] [r] pos) (.cmp l o r)
  | not {v:PySem.Expr} {pos:Pos}:Spec (.UnaryOp .Not v pos) (.not v)
  | and2 {p q:PySem.Expr} {r:List PySem.Expr} {pos:Pos}:Spec (.BoolOp .And (p :: q :: r) pos) (.and2 p (match r with | []=>q | _=>.BoolOp .And (q :: r) pos))
  | or2 {p q:PySem.Expr} {r:List PySem.Expr} {pos:Pos}:Spec (.BoolOp .Or (p :: q :: r) pos) (.or2 p (match r with | []=>q | _=>.BoolOp .Or (q :: r) pos))
  | ite {t x y:PySem.Expr} {pos:Pos}:Spec (.IfExp t x y pos) (.ite t x y)
  | call {x:Str} {args:List PySem.Expr} {pos pos':Pos}:Spec (.Call (.Name x pos) args [] pos') (.call x args)
  | meth {o:PySem.Expr} {n:Str} {args:List PySem.Expr} {ap pos:Pos} (h:(ap.endLine == pos.line) = true):Spec (.Call (.Attribute o n ap) args [] pos) (.meth o n args)
  | sub {p q:PySem.Expr} {pos:Pos} (h:notSlice q = true):Spec (.Subscript p q pos) (.sub p q)
  | rev {p:PySem.Expr} {k:Nat} {q₁ q₂ q₃ pos:Pos}:Spec (.Subscript p (.Slice Option.none Option.none (some (.UnaryOp .USub (.Constant (.int 1) k q₁) q₂)) q₃) pos) (.rev p)
  | upto {p:PySem.Expr} {i:Int} {k:Nat} {q₁ q₂ pos:Pos}:Spec (.Subscript p (.Slice Option.none (some (.Constant (.int i) k q₁)) Option.none q₂) pos) (.upto p i)
  | from_ {p:PySem.Expr} {i:Int} {k:Nat} {q₁ q₂ pos:Pos}:Spec (.Subscript p (.Slice (some (.Constant (.int i) k q₁)) Option.none Option.none q₂) pos) (.from_ p i)
  | list {ps:List PySem.Expr} {pos:Pos}:Spec (.List ps pos) (.list ps)
  | tri {p q r:PySem.Expr} {k:Nat} {pos:Pos}:Spec (.Tuple [p,q,r] k pos) (.tri p q r)
  | dict0 {pos:Pos}:Spec (.Dict [] [] pos) .dict0
  | comp {pe:PySem.Expr} {xn:Str} {xp:Pos} {pit:PySem.Expr} {sc:Scope} {pos:Pos}:Spec (.ListComp pe [⟨.Name xn xp,pit,[],0⟩] sc pos) (.comp pe xn pit sc)
  | compIf {pe:PySem.Expr} {xn:Str} {xp:Pos} {pit pc:PySem.Expr} {sc:Scope} {pos:Pos}:Spec (.ListComp pe [⟨.Name xn xp,pit,[pc],0⟩] sc pos) (.compIf pe xn pit pc sc)
noncomputable def intC (f:Int→Vw):Const→Vw
  | .int i=>f i
  | _=>.bad
noncomputable def intE (f:Int→Vw):PySem.Expr→Vw
  | .Constant c _ _=>intC f c
  | _=>.bad
theorem intE_ind {f:Int→Vw} {P:PySem.Expr→Vw→Prop} (h:∀ i k pos,P (.Constant (.int i) k pos) (f i)) (hb:∀ e,P e .bad) (e:PySem.Expr):P e (intE f e):=by
  cases e <;> first | exact hb _ | skip
  rename_i c _ _
  cases c <;> first | exact hb _ | exact h ..
noncomputable def usubO (f:Int→Vw):PySem.UnaryOp→PySem.Expr→Vw
  | .USub,v=>intE f v
  | _,_=>.bad
noncomputable def usubE (f:Int→Vw):PySem.Expr→Vw
  | .UnaryOp o v _=>usubO f o v
  | _=>.bad
theorem usubE_ind {f:Int→Vw} {P:PySem.Expr→Vw→Prop} (h:∀ i k pos pos',P (.UnaryOp .USub (.Constant (.int i) k pos) pos') (f i)) (hb:∀ e,P e .bad) (e:PySem.Expr):P e (usubE f e):=by
  cases e <;> first | exact hb _ | skip
  rename_i o v pos
  cases o <;> first | exact hb _ | skip
  exact intE_ind (P:=fun e v=>P (.UnaryOp .USub e pos) v) (fun _ _ _=>h ..) (fun _=>hb _) v
noncomputable def viewSl3 (p:PySem.Expr):Option PySem.Expr→Option PySem.Expr→Option PySem.Expr→Vw
  | Option.none,Option.none,some s=>usubE (fun i=>if i = 1 then .rev p else .bad) s
  | Option.none,some u,Option.none=>intE (.upto p) u
  | some l,Option.none,Option.none=>intE (.from_ p) l
  | _,_,_=>.bad
noncomputable def viewSl (p:PySem.Expr):PySem.Expr→Vw
  | .Slice a b c _=>viewSl3 p a b c
  | q=>.sub p q
theorem viewSl3_spec {p:PySem.Expr} {q pos:Pos}:∀ a b c,Spec (.Subscript p (.Slice a b c q) pos) (viewSl3 p a b c)
  | Option.none,Option.none,Option.none=>.bad
  | Option.none,Option.none,some s=>usubE_ind (f:=fun i=>if i = 1 then .rev p else .bad) (P:=fun e v=>Spec (.Subscript p (.Slice Option.none Option.none (some e) q) pos) v) (fun i k p1 p2=>by
      by_cases h:i = 1
      · subst h; exact .rev
      · rw [if_neg h]; exact .bad) (fun _=>.bad) s
  | Option.none,some u,Option.none=>intE_ind (f:=.upto p) (P:=fun e v=>Spec (.Subscript p (.Slice Option.none (some e) Option.none q) pos) v) (fun _ _ _=>.upto) (fun _=>.bad) u
  | some l,Option.none,Option.none=>intE_ind (f:=.from_ p) (P:=fun e v=>Spec (.Subscript p (.Slice (some e) Option.none Option.none q) pos) v) (fun _ _ _=>.from_) (fun _=>.bad) l
  | Option.none,some _,some _=>.bad
  | some _,Option.none,some _=>.bad
  | some _,some _,Option.none=>.bad
  | some _,some _,some _=>.bad
theorem viewSl_spec {p q:PySem.Expr} {pos:Pos}:Spec (.Subscript p q pos) (viewSl p q):=by
  cases q <;> first | exact .sub rfl | exact viewSl3_spec ..
noncomputable def viewC:Const→Vw
  | .none=>.none
  | .bool b=>.bool b
  | .int i=>.int i
  | _=>.bad
noncomputable def viewU:PySem.UnaryOp→PySem.Expr→Vw
  | .Not,v=>.not v
  | .USub,v=>intE .neg v
  | _,_=>.bad
noncomputable def viewCall (args:List PySem.Expr) (pos:Pos):PySem.Expr→Vw
  | .Name x _=>.call x args
  | .Attribute o n ap=>if ap.endLine == pos.line then .meth o n args else .bad
  | _=>.bad
theorem viewCall_spec {args:List PySem.Expr} {pos:Pos} (f:PySem.Expr):Spec (.Call f args [] pos) (viewCall args pos f):=by
  cases f <;> first | exact .bad | exact .call | skip
  rename_i o n ap
  show Spec _ (if ap.endLine == pos.line then .meth o n args else .bad)
  cases h:ap.endLine == pos.line
  · exact .bad
  · exact .meth h
noncomputable def viewKw (args:List PySem.Expr) (pos:Pos) (f:PySem.Expr):List Keyword→Vw
  | []=>viewCall args pos f
  | _=>.bad
noncomputable def viewIf (pe:PySem.Expr) (sc:Scope) (xn:Str) (pit:PySem.Expr):List PySem.Expr→Vw
  | []=>.comp pe xn pit sc
  | pc :: r=>match r with
    | []=>.compIf pe xn pit pc sc
    | _=>.bad
noncomputable def viewAs (pe:PySem.Expr) (sc:Scope) (pit:PySem.Expr) (ifs:List PySem.Expr):PySem.Expr→Vw
  | .Name xn _=>viewIf pe sc xn pit ifs
  | _=>.bad
noncomputable def viewComp (pe:PySem.Expr) (sc:Scope):List Comprehension→Vw
  | []=>.bad
  | g :: r=>match r with
    | []=>if g.is_async = 0 then viewAs pe sc g.iter g.ifs g.target else .bad
    | _=>.bad
theorem viewComp_spec {pe:PySem.Expr} {sc:Scope} {pos:Pos} (gs:List Comprehension):Spec (.ListComp pe gs sc pos) (viewComp pe sc gs):=by
  cases gs with
  | nil=>exact .bad
  | cons g r =>
    cases r with
    | cons _ _=>exact .bad
    | nil =>
      obtain ⟨t,it,ifs,k⟩:=g
      show Spec _ (if k = 0 then viewAs pe sc it ifs t else .bad)
      by_cases h:k = 0
      · subst h
        rw [if_pos rfl]
        cases t <;> first | exact .bad | skip
        cases ifs with
        | nil=>exact .comp
        | cons pc r =>
          cases r with
          | nil=>exact .compIf
          | cons _ _=>exact .bad
      · rw [if_neg h]; exact .bad
noncomputable def viewB2 (pos:Pos) (p q:PySem.Expr) (r:List PySem.Expr):PySem.BoolOp→Vw
  | .And=>.and2 p (match r with | []=>q | _=>.BoolOp .And (q :: r) pos)
  | .Or=>.or2 p (match r with | []=>q | _=>.BoolOp .Or (q :: r) pos)
noncomputable def viewB (pos:Pos) (o:PySem.BoolOp):List PySem.Expr→Vw
  | []=>.bad
  | p :: r=>match r with
    | []=>.bad
    | q :: r=>viewB2 pos p q r o
noncomputable def viewCmp (l:PySem.Expr):List CmpOp→List PySem.Expr→Vw
  | [],_=>.bad
  | o :: r,rs=>match r with
    | []=>match rs with
      | []=>.bad
      | x :: y=>match y with
        | []=>.cmp l o x
        | _=>.bad
    | _=>.bad
noncomputable def viewTup:List PySem.Expr→Vw
  | []=>.bad
  | p :: r=>match r with
    | []=>.bad
    | q :: r=>match r with
      | []=>.bad
      | x :: r=>match r with
        | []=>.tri p q x
        | _=>.bad
noncomputable def viewDict:List (Option PySem.Expr)→List PySem.Expr→Vw
  | [],vs=>match vs with
    | []=>.dict0
    | _=>.bad
  | _,_=>.bad
noncomputable def view:PySem.Expr→Vw
  | .Constant c _ _=>viewC c
  | .UnaryOp o v _=>viewU o v
  | .Name x _=>.name x
  | .Attribute v n _=>.attr v n
  | .BinOp l o r _=>.bin l o r
  | .Compare l os rs _=>viewCmp l os rs
  | .BoolOp o ps pos=>viewB pos o ps
  | .IfExp t x y _=>.ite t x y
  | .Call f args ks pos=>viewKw args pos f ks
  | .Subscript p q _=>viewSl p q
  | .List ps _=>.list ps
  | .Tuple ps _ _=>viewTup ps
  | .Dict ks vs _=>viewDict ks vs
  | .ListComp pe gs sc _=>viewComp pe sc gs
  | _=>.bad
theorem view_spec (p:PySem.Expr):Spec p (view p):=by
  cases p <;> first | exact .bad | exact .name | exact .attr | exact .bin | exact .ite | exact .list | exact viewSl_spec | exact viewComp_spec _ | skip
  case Constant c _ _=>cases c <;> first | exact .bad | exact .none | exact .bool | exact .int
  case BoolOp o ps pos =>
    cases ps with
    | nil=>exact .bad
    | cons p r =>
      cases r with
      | nil=>exact .bad
      | cons q r=>cases o <;> first | exact .and2 | exact .or2
  case UnaryOp o v pos =>
    cases o <;> first | exact .bad | exact .not | skip
    exact intE_ind (f:=.neg) (P:=fun e v=>Spec (.UnaryOp .USub e pos) v) (fun _ _ _=>.neg) (fun _=>.bad) v
  case Compare l os rs pos =>
    cases os with
    | nil=>exact .bad
    | cons o r =>
      cases r with
      | cons _ _=>exact .bad
      | nil =>
        cases rs with
        | nil=>exact .bad
        | cons x y =>
          cases y with
          | nil=>exact .cmp
          | cons _ _=>exact .bad
  case Call f args ks pos =>
    cases ks with
    | nil=>exact viewCall_spec f
    | cons _ _=>exact .bad
  case Tuple ps k pos =>
    cases ps with
    | nil=>exact .bad
    | cons p r =>
      cases r with
      | nil=>exact .bad
      | cons q r =>
        cases r with
        | nil=>exact .bad
        | cons x r =>
          cases r with
          | nil=>exact .tri
          | cons _ _=>exact .bad
  case Dict ks vs pos =>
    cases ks with
    | cons _ _=>exact .bad
    | nil =>
      cases vs with
      | nil=>exact .dict0
      | cons _ _=>exact .bad
noncomputable def aopOf:Operator→Option AOp
  | .Add=>some .add | .Sub=>some .sub | .Mult=>some .mul | .FloorDiv=>some .fdiv | .Mod=>some .mod | _=>none
noncomputable def copOf:CmpOp→Option COp
  | .Eq=>some .eq | .NotEq=>some .ne | .Lt=>some .lt | .LtE=>some .le | .Gt=>some .gt | .GtE=>some .ge | _=>none
noncomputable def allFlds:List Fld:=[.number,.begin_,.end_,.front,.rear,.limit,.offset,.red,.left,.right,.parent,.root,.count]
noncomputable def allFids:List Fid:=[.handDown,.handDownTo,.greatestEnd,.renewLimits,.hang,.turnLeft,.turnRight,.isRed,.colourInserted,.turnedInward,.putNode,.firstBelow,.takePlace,.dropNode,.colourDropped,
  .siblingOf,.turnTowards,.lightened,.allNodesInOrder,.nodesBetween,.beginsToMove,.grows,.openGap,.shiftNodes,.closeGap,.blackHeight,.nodesFromBelow,.shapeError,.overlayTreeError,.lawDraw,.lawLaid,
  .lawCame,.lawWent,.lawDone,.lawIsRight]
noncomputable def fldOf (n:Str):Option Fld:=allFlds.find? fun f=>n == f.nm
noncomputable def fidOf (n:Str):Option Fid:=allFids.find? fun f=>n == f.nm
noncomputable def listy (p:PySem.Expr):Bool:=match view p with
  | .list _ | .comp .. | .compIf .. | .rev _ | .upto .. | .from_ ..=>true
  | .call x _=>x == ("sorted":Str)
  | .name x=>x == ("due":Str) || x == ("places":Str)
  | _=>false
noncomputable def isOwn (p:PySem.Expr):Bool:=match view p with
  | .name x=>x == ("own":Str)
  | _=>false
noncomputable def esOf (g:PySem.Expr→E):List PySem.Expr→Es
  | []=>.nil
  | p :: ps=>.cons (g p) (esOf g ps)
noncomputable def slotOf (sl:Sls) (x:Str):Nat:=sl.findIdx fun y=>y == some x
noncomputable def callE (ns:Nms) (x:Str) (args:List PySem.Expr) (g:PySem.Expr→E):E :=
  if globOk ns x && args.all notStar then
    (if x == ("OverlayNode":Str) then (match args with | []=>.bad | _=>.newNode (esOf g args))
    else if x == ("max":Str) then (match args with | [p,q]=>.max (g p) (g q) | _=>.bad)
    else if x == ("abs":Str) then (match args with | [p]=>.abs (g p) | _=>.bad)
    else if x == ("len":Str) then (match args with | [p]=>.len (g p) | _=>.bad)
    else if x == ("sorted":Str) then (match args with | [p]=>if isOwn p then .sortedKeys (g p) else .sorted (g p) | _=>.bad)
    else match fidOf x with | some f=>.call f (esOf g args) | none=>.bad)
  else .bad
noncomputable def methE (o:PySem.Expr) (n:Str) (args:List PySem.Expr) (g:PySem.Expr→E):E :=
  if notCall o && args.all notStar then
    (if n == ("append":Str) then (match args with | [p]=>.append (g o) (g p) | _=>.bad)
    else if n == ("pop":Str) then (match args with | []=>.pop (g o) | _=>.bad)
    else if n == ("get":Str) then (match args with | [p,q]=>.get (g o) (g p) (g q) | _=>.bad)
    else .bad)
  else .bad
noncomputable def binE (l:PySem.Expr) (o:Operator) (r:PySem.Expr) (g:PySem.Expr→E):E :=
  if o == .Add && (listy l || listy r) then .cat (g l) (g r) else match aopOf o with | some op=>.bin op (g l) (g r) | none=>.bad
noncomputable def cmpE (l:PySem.Expr) (o:CmpOp) (r:PySem.Expr) (g:PySem.Expr→E):E :=
  if notSet r then
    (if o == .Is then .is false (g l) (g r) else if o == .IsNot then .is true (g l) (g r)
    else if o == .Eq && (listy l || listy r) then .eqL false (g l) (g r) else if o == .NotEq && (listy l || listy r) then .eqL true (g l) (g r)
    else match copOf o with | some op=>.cmp op (g l) (g r) | none=>.bad)
  else .bad
noncomputable def compOk (b:Bool) (ns:Nms) (sl:Sls) (xn:Str) (pit:PySem.Expr) (sc:Scope):Bool:=b && (sl[sl.length - 1]? == some none && compScOk ns xn sc && !(xn == ("__debug__":Str)) && notSet pit)
noncomputable def ofV (b:Bool) (ns:Nms) (sl:Sls) (g:Bool→Nms→Sls→PySem.Expr→E):Vw→E
  | .bad=>.bad
  | .none=>.none
  | .bool c=>.bool c
  | .int i=>if 0 ≤ i then .int i.toNat else .bad
  | .neg i=>if 0 ≤ i then .negC i.toNat else .bad
  | .name x=>if varOk ns sl (slotOf sl x) x then .var (slotOf sl x) else .bad
  | .attr v m=>(match fldOf m with | some f=>if notCall v then .attr (g b ns sl v) f else .bad | none=>.bad)
  | .bin l o r=>binE l o r (g b ns sl)
  | .cmp l o r=>cmpE l o r (g b ns sl)
  | .not v=>.not (g b ns sl v)
  | .and2 p q=>.and (g b ns sl p) (g b ns sl q)
  | .or2 p q=>.or (g b ns sl p) (g b ns sl q)
  | .ite t x y=>.ite (g b ns sl t) (g b ns sl x) (g b ns sl y)
  | .call x args=>callE ns x args (g b ns sl)
  | .meth o m args=>methE o m args (g b ns sl)
  | .sub p q=>.idx (g b ns sl p) (g b ns sl q)
  | .rev p=>.rev (g b ns sl p)
  | .upto p i=>if 0 ≤ i then .upto (g b ns sl p) i.toNat else .bad
  | .from_ p i=>if 0 ≤ i then .from_ (g b ns sl p) i.toNat else .bad
  | .list ps=>if ps.all notStar then .list (esOf (g b ns sl) ps) else .bad
  | .tri p q r=>if notStar p && notStar q && notStar r then .tri (g b ns sl p) (g b ns sl q) (g b ns sl r) else .bad
  | .dict0=>.emptyDict
  | .comp pe xn pit sc=>if compOk b ns sl xn pit sc then .comp (sl.length - 1) (g false (compNs ns sc.names) (compSl ns sc.names sl (sl.length - 1) xn) pe) (g b ns sl pit) else .bad
  | .compIf pe xn pit pc sc=>if compOk b ns sl xn pit sc then .compIf (sl.length - 1) (g false (compNs ns sc.names) (compSl ns sc.names sl (sl.length - 1) xn) pe) (g b ns sl pit)
        (g false (compNs ns sc.names) (compSl ns sc.names sl (sl.length - 1) xn) pc) else .bad
noncomputable def ofE:Nat→Bool→Nms→Sls→PySem.Expr→E
  | 0,_,_,_,_=>.bad
  | n + 1,b,ns,sl,p=>ofV b ns sl (ofE n) (view p)
noncomputable def slotsIn (sl:Sls):List PySem.Expr→List Nat
  | .Name x _ :: ps=>slotOf sl x :: slotsIn sl ps
  | _=>[]
noncomputable def attr1:PySem.Expr→Option (PySem.Expr × Str)
  | .Attribute p n _=>some (p,n)
  | _=>none
noncomputable def attr2:List PySem.Expr→Option ((PySem.Expr × Str) × (PySem.Expr × Str))
  | []=>none
  | a :: r=>match r with
    | []=>none
    | b :: r=>match r with
      | []=>(attr1 a).bind fun x=>(attr1 b).map fun y=>(x,y)
      | _=>none
noncomputable def asgName (ns:Nms) (y:Str) (tp:Pos) (p:PySem.Expr):PySem.Expr→Bool
  | .ListComp _ _ sc pp=>tp.line == pp.line && ns.lookup y == some .local && !(sc.names.any fun z=>z.1 == y && (z.2 == .local || z.2 == .cell))
  | _=>notComp p
noncomputable def asgA2 (g:PySem.Expr→E) (p₁ p₂:PySem.Expr) (f₁ f₂:Fld):List PySem.Expr→S
  | []=>.bad
  | pa :: r=>match r with
    | []=>.bad
    | pb :: r=>match r with
      | []=>if notStar pa && notStar pb then .asgAttr2 (g p₁) f₁ (g p₂) f₂ (g pa) (g pb) else .bad
      | _=>.bad
noncomputable def asgTT (ns:Nms) (sl:Sls) (g:PySem.Expr→E) (pts pvs:List PySem.Expr):S:=match attr2 pts with
  | some x=>(match fldOf x.1.2 with | some f₁=>(match fldOf x.2.2 with | some f₂=>asgA2 g x.1.1 x.2.1 f₁ f₂ pvs | none=>.bad) | none=>.bad)
  | none=>if namesOk ns sl (slotsIn sl pts) pts && asgOk pts pvs && pvs.all notStar then .asg (slotsIn sl pts) (esOf g pvs) else .bad
noncomputable def asgTupE (ns:Nms) (sl:Sls) (g:PySem.Expr→E) (pts:List PySem.Expr) (p:PySem.Expr):PySem.Expr→S
  | .Tuple pvs _ _=>asgTT ns sl g pts pvs
  | .Name _ _=>if namesOk ns sl (slotsIn sl pts) pts then .unpack (slotsIn sl pts) (g p) else .bad
  | _=>.bad
noncomputable def assignE (ns:Nms) (sl:Sls) (g:PySem.Expr→E) (p:PySem.Expr):PySem.Expr→S
  | .Name y tp=>if stOk ns sl (slotOf sl y) y && asgName ns y tp p p then .assign (slotOf sl y) (g p) else .bad
  | .Attribute po n _=>(match fldOf n with | some f=>if notComp p then .setattr (g po) f (g p) else .bad | none=>.bad)
  | .Subscript po pi _=>if notComp p && notSlice pi then .setidx (g po) (g pi) (g p) else .bad
  | .Tuple pts _ _=>asgTupE ns sl g pts p p
  | _=>.bad
noncomputable def forL (sl:Sls) (g:PySem.Expr→E) (body:Ss) (y:Str) (p:PySem.Expr):S:=if notSet p then .forList (slotOf sl y) (g p) body else .bad
noncomputable def forT (sl:Sls) (g:PySem.Expr→E) (body:Ss) (y:Str) (p:PySem.Expr):List PySem.Expr→S
  | []=>forL sl g body y p
  | a :: r=>match r with
    | []=>forL sl g body y p
    | b :: r=>match r with
      | []=>if notStar a && notStar b then .forTup (slotOf sl y) (g a) (g b) body else .bad
      | _=>forL sl g body y p
noncomputable def forR (ns:Nms) (sl:Sls) (g:PySem.Expr→E) (body:Ss) (y r:Str) (p:PySem.Expr) (ks:List Keyword):List PySem.Expr→S
  | []=>forL sl g body y p
  | a :: q=>match q with
    | []=>(match ks with
      | []=>if globOk ns r && notStar a then .forRange (slotOf sl y) (g a) body else .bad
      | _=>forL sl g body y p)
    | _=>forL sl g body y p
noncomputable def forC (ns:Nms) (sl:Sls) (g:PySem.Expr→E) (body:Ss) (y:Str) (p:PySem.Expr) (args:List PySem.Expr) (ks:List Keyword):PySem.Expr→S
  | .Name r _=>if r == ("range":Str) then forR ns sl g body y r p ks args else forL sl g body y p
  | _=>forL sl g body y p
noncomputable def forP (ns:Nms) (sl:Sls) (g:PySem.Expr→E) (body:Ss) (y:Str) (p:PySem.Expr):PySem.Expr→S
  | .Tuple ps _ _=>forT sl g body y p ps
  | .Call f args ks _=>forC ns sl g body y p args ks f
  | _=>forL sl g body y p
noncomputable def forE (ns:Nms) (sl:Sls) (g:PySem.Expr→E) (body:Ss) (p:PySem.Expr):PySem.Expr→S
  | .Name y _=>if locOk ns sl (slotOf sl y) y then forP ns sl g body y p p else .bad
  | _=>.bad
noncomputable def ssOf (g:Stmt→S):List Stmt→Ss
  | []=>.nil
  | p :: ps=>.cons (g p) (ssOf g ps)
noncomputable def ofAsg (ns:Nms) (sl:Sls) (g:PySem.Expr→E) (p:PySem.Expr):List PySem.Expr→S
  | []=>.bad
  | t :: r=>match r with
    | []=>assignE ns sl g p t
    | _=>.bad
noncomputable def ofDel1 (g:PySem.Expr→E):PySem.Expr→S
  | .Subscript po pi _=>.delidx (g po) (g pi)
  | _=>.bad
noncomputable def ofDel (g:PySem.Expr→E):List PySem.Expr→S
  | []=>.bad
  | t :: r=>match r with
    | []=>ofDel1 g t
    | _=>.bad
noncomputable def ofElse (s:S):List Stmt→S
  | []=>s
  | _=>.bad
noncomputable def ofRet (g:PySem.Expr→E):Option PySem.Expr→S
  | some p=>.ret (g p)
  | Option.none=>.retNone
noncomputable def ofS1 (ns:Nms) (sl:Sls) (g:PySem.Expr→E) (h:Stmt→S):Stmt→S
  | .Expr p _=>if notComp p then .expr (g p) else .bad
  | .Assign ts p _=>ofAsg ns sl g p ts
  | .Delete ts _=>ofDel g ts
  | .If t x y _=>.ite (g t) (ssOf h x) (ssOf h y)
  | .While t x e _=>ofElse (.while (g t) (ssOf h x)) e
  | .For t p pb e _=>ofElse (forE ns sl g (ssOf h pb) p t) e
  | .Return o _=>ofRet g o
  | _=>.bad
noncomputable def ofS (ns:Nms) (sl:Sls) (g:PySem.Expr→E):Nat→Stmt→S
  | 0,_=>.bad
  | n + 1,p=>ofS1 ns sl g (ofS ns sl g n) p
noncomputable abbrev ofSs (ns:Nms) (sl:Sls) (body:List Stmt):Ss:=ssOf (ofS ns sl (ofE 20 true ns sl) 20) body
end Mine
end
section
open PySem PySem.W PyProof.Rows PySem.Calls
namespace Mine
noncomputable abbrev News1:=List (Addr × Obj)
noncomputable abbrev tupO (vs:List Value):Obj:={ cls:=.type "tuple",data:=.seq vs.toArray }
noncomputable def VR (news:News1):SV→Value→Prop
  | .none,v=>v = .none
  | .bool b,v=>v = .bool b
  | .int i,v=>∃ t,v = .int i t
  | .ref a,v=>v = .ref a
  | .tri i j k,v=>∃ a t₁ t₂ t₃,v = .ref a∧(a,tupO [.int i t₁,.int j t₂,.int k t₃]) ∈ news
noncomputable def VRs (news:News1):List SV→List Value→Prop
  | [],[]=>True
  | a :: as,v :: vs=>VR news a v∧VRs news as vs
  | _,_=>False
noncomputable def DR (news:News1):List (Int × SV)→List (Int × Value)→Prop
  | [],[]=>True
  | (k,a) :: as,(k',v) :: vs=>k = k'∧VR news a v∧DR news as vs
  | _,_=>False
noncomputable def Per (news news':News1):Prop:=∀ a vs,(a,tupO vs) ∈ news→(a,tupO vs) ∈ news'
theorem Per.refl {n:News1}:Per n n:=fun _ _ h=>h
theorem Per.trans {a b c:News1} (h:Per a b) (h':Per b c):Per a c:=fun p vs hp=>h' p vs (h p vs hp)
noncomputable def notTup (o:Obj):Prop:=∀ vs,o ≠ tupO vs
noncomputable def notInst (o:Obj):Prop:=∀ C d,o ≠ instObj C d
theorem VR.mono {n n':News1} (h:Per n n'):∀ {a:SV} {v:Value},VR n a v→VR n' a v
  | .none,_,x=>x
  | .bool _,_,x=>x
  | .int _,_,x=>x
  | .ref _,_,x=>x
  | .tri _ _ _,_,⟨a,t1,t2,t3,e,hm⟩=>⟨a,t1,t2,t3,e,h _ _ hm⟩
theorem VRs.cons_of {n:News1} {a:SV} {as:List SV} {vs:List Value} (h:VRs n (a :: as) vs):∃ v us,vs = v :: us∧VR n a v∧VRs n as us:=by
  cases vs with
  | nil=>exact h.elim
  | cons v us=>exact ⟨v,us,rfl,h⟩
theorem VRs.nil_of {n:News1} {vs:List Value} (h:VRs n [] vs):vs = []:=by
  cases vs with
  | nil=>rfl
  | cons v us=>exact h.elim
theorem VRs.mono {n n':News1} (h:Per n n'):∀ {as:List SV} {vs:List Value},VRs n as vs→VRs n' as vs
  | [],_ :: _,h=>h.elim
  | _ :: _,[],h=>h.elim
  | [],[],_=>trivial
  | _ :: _,_ :: _,⟨x,y⟩=>⟨x.mono h,VRs.mono h y⟩
theorem DR.mono {n n':News1} (h:Per n n'):∀ {as:List (Int × SV)} {vs:List (Int × Value)},DR n as vs→DR n' as vs
  | [],(_,_) :: _,h=>h.elim
  | (_,_) :: _,[],h=>h.elim
  | [],[],_=>trivial
  | (_,_) :: _,(_,_) :: _,⟨e,x,y⟩=>⟨e,x.mono h,DR.mono h y⟩
noncomputable def EsR (news:News1) (g:Fld→Option SV) (es:List DictEntry):Prop :=
  es.length ≤ 20∧∀ f w,g f = some w→∃ e,es.find? (fun e=>e.key.isStr f.nm) = some e∧VR news w e.val
theorem EsR.mono {n n':News1} (h:Per n n') {g:Fld→Option SV} {es:List DictEntry} (x:EsR n g es):EsR n' g es :=
  ⟨x.1,fun f w e=>let ⟨a,b,c⟩:=x.2 f w e; ⟨a,b,c.mono h⟩⟩
structure Cls where
  node:Addr
  tree:Addr
section
variable (prog:Program) (w:World) (cl:Cls)
noncomputable def InstR (priv news:News1) (C:Addr) (g:Fld→Option SV) (a:Addr):Prop :=
  ∃ d es n,(a,instObj C d) ∈ news∧(d,dictOf es n) ∈ news∧d ∉ priv.map (·.1)∧EsR news g es
noncomputable def OR (priv news:News1) (a:Addr):SO→Prop
  | .node r=>InstR priv news cl.node r.get a
  | .tree r=>InstR priv news cl.tree r.get a
  | .list vs=>∃ its n,(a,listOf its n) ∈ news∧VRs news vs its.toList
  | .dict kvs=>∃ o kvs',(a,o) ∈ news∧Obj.IsDictOf (PySem.intKind prog w) o kvs'∧DR news kvs kvs'∧(a == sysModules) = false
structure RR (σ:Hp) (priv news:News1):Prop where
  nd:(news.map (·.1)).Nodup
  pv:∀ p ∈ priv,p ∈ news
  ob:∀ a o,σ a = some o→a ∉ priv.map (·.1)∧OR prog w cl priv news a o
  ui:∀ a b C C' d,(a,instObj C d) ∈ news→(b,instObj C' d) ∈ news→a = b
  ud:∀ a C d,(a,instObj C d) ∈ news→d ∈ news.map (·.1)
  pi:∀ a C d,(a,instObj C d) ∈ news→d ∉ priv.map (·.1)
end
theorem mem_eq {news:News1} (nd:(news.map (·.1)).Nodup) {a:Addr} {o o':Obj} (h:(a,o) ∈ news) (h':(a,o') ∈ news):o = o':=by
  induction news with
  | nil=>cases h
  | cons p r ih =>
    rw [List.map_cons,List.nodup_cons] at nd
    rcases List.mem_cons.mp h with e | h
    · rcases List.mem_cons.mp h' with e' | h'
      · rw [← e] at e'; exact (congrArg Prod.snd e').symm
      · exact absurd (List.mem_map.mpr ⟨_,h',by rw [← e]⟩) nd.1
    · rcases List.mem_cons.mp h' with e' | h'
      · exact absurd (List.mem_map.mpr ⟨_,h,by rw [← e']⟩) nd.1
      · exact ih nd.2 h h'
noncomputable def updL (news:News1) (d:Addr) (o':Obj):News1:=news.map fun p=>if p.1 = d then (d,o') else p
theorem updL_fst (news:News1) (d:Addr) (o':Obj):(updL news d o').map (·.1) = news.map (·.1):=by
  unfold updL
  rw [List.map_map]
  refine List.map_congr_left fun p _=>?_
  simp only [Function.comp]
  split
  · rename_i h; exact h.symm
  · rfl
theorem updL_self {news:News1} {d:Addr} {o o':Obj} (h:(d,o) ∈ news):(d,o') ∈ updL news d o' :=
  List.mem_map.mpr ⟨_,h,if_pos rfl⟩
theorem updL_ne {news:News1} {d a:Addr} {o o':Obj} (h:(a,o) ∈ news) (hn:a ≠ d):(a,o) ∈ updL news d o' :=
  List.mem_map.mpr ⟨_,h,if_neg hn⟩
theorem updL_mem {news:News1} {d a:Addr} {o o':Obj} (h:(a,o) ∈ updL news d o'):(a = d∧o = o') ∨ (a ≠ d∧(a,o) ∈ news):=by
  obtain ⟨p,hp,e⟩:=List.mem_map.mp h
  split at e
  · cases e; exact .inl ⟨rfl,rfl⟩
  · rename_i hn; subst e; exact .inr ⟨hn,hp⟩
theorem updL_none {d:Addr} {o':Obj}:∀ {news:News1},(∀ p ∈ news,p.1 ≠ d)→updL news d o' = news
  | [],_=>rfl
  | p :: r,h=>by
    have h1:=h p (.head _)
    have h2:=updL_none (d:=d) (o':=o') (news:=r) fun q hq=>h q (.tail _ hq)
    unfold updL at h2 ⊢
    rw [List.map_cons,h2,if_neg h1]
theorem upd_of {d:Addr} {o o':Obj}:∀ {news:News1},(news.map (·.1)).Nodup→(d,o) ∈ news→Upd d o o' news (updL news d o')
  | p :: r,nd,h=>by
    rw [List.map_cons,List.nodup_cons] at nd
    have hr:∀ {q:Addr},q = p.1→∀ x ∈ r,x.1 ≠ q:=fun e x hx e'=>nd.1 (by rw [← e,← e']; exact List.mem_map_of_mem hx)
    rcases List.mem_cons.mp h with e | h
    · subst e
      have:updL ((d,o) :: r) d o' = (d,o') :: r:=by
        have h2:=updL_none (d:=d) (o':=o') (news:=r) (hr rfl)
        unfold updL at h2 ⊢
        rw [List.map_cons,h2,if_pos rfl]
      rw [this]
      exact .head (hr rfl)
    · have hne:p.1 ≠ d:=fun e=>nd.1 (by rw [e]; exact List.mem_map.mpr ⟨_,h,rfl⟩)
      have:updL (p :: r) d o' = p :: updL r d o':=by
        unfold updL
        rw [List.map_cons,if_neg hne]
      rw [this]
      exact .tail hne (upd_of nd.2 h)
theorem updF_of {d:Addr} {o:Obj}:∀ {news:News1},(news.map (·.1)).Nodup→(d,o) ∈ news→UpdF d o news (updL news d)
  | p :: r,nd,h=>by
    rw [List.map_cons,List.nodup_cons] at nd
    have hr:∀ {q:Addr},q = p.1→∀ x ∈ r,x.1 ≠ q:=fun e x hx e'=>nd.1 (by rw [← e,← e']; exact List.mem_map_of_mem hx)
    rcases List.mem_cons.mp h with e | h
    · subst e
      have:updL ((d,o) :: r) d = fun o'=>(d,o') :: r:=by
        funext o'
        have h2:=updL_none (d:=d) (o':=o') (news:=r) (hr rfl)
        unfold updL at h2 ⊢
        rw [List.map_cons,h2,if_pos rfl]
      rw [this]
      exact .head (hr rfl)
    · have hne:p.1 ≠ d:=fun e=>nd.1 (by rw [e]; exact List.mem_map.mpr ⟨_,h,rfl⟩)
      have:updL (p :: r) d = fun o'=>p :: updL r d o':=by
        funext o'
        unfold updL
        rw [List.map_cons,if_neg hne]
      rw [this]
      exact .tail hne (updF_of nd.2 h)
theorem Per.upd {news:News1} {d:Addr} {o o':Obj} (nd:(news.map (·.1)).Nodup) (h:(d,o) ∈ news) (hc:notTup o):Per news (updL news d o'):=fun a vs hp=>by
  by_cases e:a = d
  · subst e
    exact absurd (mem_eq nd h hp) (hc vs)
  · exact updL_ne hp e
theorem Per.cons {news:News1} {p:Addr × Obj}:Per news (p :: news):=fun _ _ h=>.tail _ h
theorem Per.of {news news':News1} (h:∀ p ∈ news,p ∈ news'):Per news news':=fun _ _ hp=>h _ hp
end Mine
end
section
open PySem PySem.W PyProof.Rows PySem.Calls
namespace Mine
section
variable {prog:Program} {w:World} {cl:Cls} {σ σ':Hp} {priv priv' news:News1} {a d:Addr} {o o':Obj} {so so':SO}
theorem OR.mono (hs:∀ p ∈ news,p ∈ priv') (h:OR prog w cl priv news a so):OR prog w cl priv priv' a so:=by
  have hp:Per news priv':=Per.of hs
  cases so with
  | node r=>obtain ⟨d,es,n,h1,h2,h3,h4⟩:=h; exact ⟨d,es,n,hs _ h1,hs _ h2,h3,h4.mono hp⟩
  | tree r=>obtain ⟨d,es,n,h1,h2,h3,h4⟩:=h; exact ⟨d,es,n,hs _ h1,hs _ h2,h3,h4.mono hp⟩
  | list vs=>obtain ⟨its,n,h1,h2⟩:=h; exact ⟨its,n,hs _ h1,h2.mono hp⟩
  | dict kvs=>obtain ⟨o,k,h1,h2,h3,h4⟩:=h; exact ⟨o,k,hs _ h1,h2,h3.mono hp,h4⟩
theorem OR.upd (nd:(news.map (·.1)).Nodup) (hm:(d,o) ∈ news) (hc:notTup o) (h:OR prog w cl priv news a so) (hne:a ≠ d)
    (hin:∀ C dd,(a,instObj C dd) ∈ news→dd ≠ d):OR prog w cl priv (updL news d o') a so:=by
  have hp:Per news (updL news d o'):=Per.upd nd hm hc
  cases so with
  | node r=>obtain ⟨dd,es,n,h1,h2,h3,h4⟩:=h; exact ⟨dd,es,n,updL_ne h1 hne,updL_ne h2 (hin _ _ h1),h3,h4.mono hp⟩
  | tree r=>obtain ⟨dd,es,n,h1,h2,h3,h4⟩:=h; exact ⟨dd,es,n,updL_ne h1 hne,updL_ne h2 (hin _ _ h1),h3,h4.mono hp⟩
  | list vs=>obtain ⟨its,n,h1,h2⟩:=h; exact ⟨its,n,updL_ne h1 hne,h2.mono hp⟩
  | dict kvs=>obtain ⟨o,k,h1,h2,h3,h4⟩:=h; exact ⟨o,k,updL_ne h1 hne,h2,h3.mono hp,h4⟩
theorem OR.mem (h:OR prog w cl priv news a so):a ∈ news.map (·.1):=by
  cases so with
  | node r=>obtain ⟨d,es,n,h1,_⟩:=h; exact List.mem_map.mpr ⟨_,h1,rfl⟩
  | tree r=>obtain ⟨d,es,n,h1,_⟩:=h; exact List.mem_map.mpr ⟨_,h1,rfl⟩
  | list vs=>obtain ⟨its,n,h1,h2⟩:=h; exact List.mem_map.mpr ⟨_,h1,rfl⟩
  | dict kvs=>obtain ⟨o,k,h1,_⟩:=h; exact List.mem_map.mpr ⟨_,h1,rfl⟩
theorem OR.less (hs:∀ p ∈ priv',p ∈ priv) (h:OR prog w cl priv news a so):OR prog w cl priv' news a so:=by
  have hn:∀ {d:Addr},d ∉ priv.map (·.1)→d ∉ priv'.map (·.1):=fun hd hm=>by
    obtain ⟨p,hp,rfl⟩:=List.mem_map.mp hm
    exact hd (List.mem_map_of_mem (hs p hp))
  cases so with
  | node r=>obtain ⟨d,es,n,h1,h2,h3,h4⟩:=h; exact ⟨d,es,n,h1,h2,hn h3,h4⟩
  | tree r=>obtain ⟨d,es,n,h1,h2,h3,h4⟩:=h; exact ⟨d,es,n,h1,h2,hn h3,h4⟩
  | list vs=>exact h
  | dict kvs=>exact h
theorem OR.more (hs:∀ d es n e f,(d,dictOf es n) ∈ news→es.find? (fun e=>e.key.isStr (Fld.nm f)) = some e→d ∉ priv.map (·.1)→d ∉ priv'.map (·.1)) (h:OR prog w cl priv news a so):OR prog w cl priv' news a so:=by
  cases so with
  | node r =>
    obtain ⟨d,es,n,h1,h2,h3,h4⟩:=h
    obtain ⟨e,he,_⟩:=h4.2 .number _ rfl
    exact ⟨d,es,n,h1,h2,hs _ _ _ _ _ h2 he h3,h4⟩
  | tree r =>
    obtain ⟨d,es,n,h1,h2,h3,h4⟩:=h
    obtain ⟨e,he,_⟩:=h4.2 .count _ rfl
    exact ⟨d,es,n,h1,h2,hs _ _ _ _ _ h2 he h3,h4⟩
  | list vs=>exact h
  | dict kvs=>exact h
theorem intDict_ne {kvs:List (Int × Value)} {es:List DictEntry} {n:Nat} {e:DictEntry} {x:Str} (h:Obj.IsDictOf (PySem.intKind prog w) o kvs) (he:es.find? (fun e=>e.key.isStr x) = some e):o ≠ dictOf es n:=by
  rintro rfl
  obtain ⟨es',ep,_,hd,hk,hp,_⟩:=h
  cases hd
  have hm:e ∈ es:=List.mem_of_find?_eq_some he
  have hs:=List.find?_some he
  obtain ⟨k,hk,_⟩:=hk e (by simpa using hm)
  unfold Value.isStr at hs
  split at hs
  · rename_i s t q
    rw [q] at hk
    cases hk
  · cases hs
theorem RR.sub (R:RR prog w cl σ priv news) (h:Sub σ' σ):RR prog w cl σ' priv news:=⟨R.nd,R.pv,fun a o e=>R.ob a o (h a o e),R.ui,R.ud,R.pi⟩
theorem RR.less (R:RR prog w cl σ priv news) (h:∀ p ∈ priv',p ∈ priv):RR prog w cl σ priv' news :=
  ⟨R.nd,fun p hp=>R.pv p (h p hp),fun a o e=>⟨fun hm=>by
    obtain ⟨p,hp,rfl⟩:=List.mem_map.mp hm
    exact (R.ob _ o e).1 (List.mem_map_of_mem (h p hp)),(R.ob a o e).2.less h⟩,R.ui,R.ud,fun a C d hi hm=>by
    obtain ⟨p,hp,rfl⟩:=List.mem_map.mp hm
    exact R.pi a C _ hi (List.mem_map_of_mem (h p hp))⟩
theorem RR.dom (R:RR prog w cl σ priv news) (e:σ a = some so):a ∈ news.map (·.1):=(R.ob a so e).2.mem
theorem RR.free (R:RR prog w cl σ priv news) (h:∀ p ∈ news,p.1 < a):σ a = none:=by
  cases e:σ a with
  | none=>rfl
  | some so =>
    obtain ⟨p,hp,rfl⟩:=List.mem_map.mp (R.dom e)
    exact absurd (h p hp) (Nat.lt_irrefl _)
theorem RR.turn (R:RR prog w cl σ priv news) (hm:(d,o) ∈ news) (h1:notInst o')
    (hpm:∀ x ∈ priv'.map (·.1),x ∈ priv.map (·.1)) (hpv:∀ p ∈ priv',p ∈ updL news d o') (hob:∀ a so,σ' a = some so→a ∉ priv'.map (·.1)∧OR prog w cl priv' (updL news d o') a so):RR prog w cl σ' priv' (updL news d o') where
  nd:=by rw [updL_fst]; exact R.nd
  pv:=hpv
  ob:=hob
  ui:=fun a b C C' e hp hq=>by
    rcases updL_mem hp with ⟨_,q⟩ | ⟨_,hp⟩
    · exact absurd q.symm (h1 _ _)
    · rcases updL_mem hq with ⟨_,q⟩ | ⟨_,hq⟩
      · exact absurd q.symm (h1 _ _)
      · exact R.ui _ _ _ _ e hp hq
  ud:=fun a C e hp=>by
    rw [updL_fst]
    rcases updL_mem hp with ⟨_,q⟩ | ⟨_,hp⟩
    · exact absurd q.symm (h1 _ _)
    · exact R.ud _ _ e hp
  pi:=fun a C e hp hm=>by
    rcases updL_mem hp with ⟨_,q⟩ | ⟨_,hp⟩
    · exact absurd q.symm (h1 _ _)
    · exact R.pi _ _ e hp (hpm _ hm)
theorem RR.set1 (R:RR prog w cl σ priv news) (ha:σ a = some so) (hm:(a,o) ∈ news) (h1:notInst o') (hc:notTup o)
    (hx:∀ es n e f,es.find? (fun e=>e.key.isStr (Fld.nm f)) = some e→o ≠ dictOf es n)
    (hnew:OR prog w cl priv (updL news a o') a so'):RR prog w cl (upd σ a so') priv (updL news a o'):=by
  refine R.turn hm h1 (fun _ h=>h) (fun p hp=>?_) fun b x e=>?_
  · obtain ⟨b,y⟩:=p
    refine updL_ne (R.pv _ hp) fun (q:b = a)=>(R.ob _ _ ha).1 ?_
    subst q
    exact List.mem_map.mpr ⟨_,hp,rfl⟩
  · by_cases hb:b = a
    · subst hb
      rw [upd_same] at e
      cases e
      exact ⟨(R.ob _ _ ha).1,hnew⟩
    · rw [upd_ne _ _ hb] at e
      have O:=R.ob b x e
      refine ⟨O.1,?_⟩
      have hin:∀ C dd,(b,instObj C dd) ∈ news→dd ≠ a:=fun C dd hi hq=>by
        subst hq
        cases x with
        | node r =>
          obtain ⟨d,es,n,g1,g2,g3,g4⟩:=O.2
          have:=mem_eq R.nd hi g1
          cases this
          obtain ⟨e,he,_⟩:=g4.2 .number _ rfl
          exact hx _ _ _ _ he (mem_eq R.nd hm g2)
        | tree r =>
          obtain ⟨d,es,n,g1,g2,g3,g4⟩:=O.2
          have:=mem_eq R.nd hi g1
          cases this
          obtain ⟨e,he,_⟩:=g4.2 .count _ rfl
          exact hx _ _ _ _ he (mem_eq R.nd hm g2)
        | list vs=>obtain ⟨its,n,g1,_⟩:=O.2; have:=mem_eq R.nd hi g1; cases this
        | dict kvs =>
          obtain ⟨o,k,g1,g2,_⟩:=O.2
          have:=mem_eq R.nd hi g1
          subst this
          obtain ⟨_,_,h1,h2,_⟩:=g2
          cases h2
      exact O.2.upd R.nd hm hc hb hin
theorem listOf_cls {its:Array Value} {k:Nat}:(listOf its k).cls ≠ .type "tuple":=fun h=>absurd (Value.type.inj h) (by decide)
theorem dictOf_cls {es:List DictEntry} {k:Nat}:(dictOf es k).cls ≠ .type "tuple":=fun h=>absurd (Value.type.inj h) (by decide)
theorem list_ne_dict {its:Array Value} {k:Nat} {es:List DictEntry} {n:Nat}:listOf its k ≠ dictOf es n:=fun h=>absurd (Value.type.inj (congrArg Obj.cls h)) (by decide)
theorem listOf_tup {its:Array Value} {k:Nat}:notTup (listOf its k):=fun vs h=>absurd (Value.type.inj (congrArg Obj.cls h)) (by decide)
theorem dictOf_tup {es:List DictEntry} {k:Nat}:notTup (dictOf es k):=fun vs h=>absurd (Value.type.inj (congrArg Obj.cls h)) (by decide)
theorem listOf_inst {its:Array Value} {k:Nat}:notInst (listOf its k):=fun C d h=>by cases congrArg Obj.cls h
theorem dictOf_inst {es:List DictEntry} {k:Nat}:notInst (dictOf es k):=fun C d h=>by cases congrArg Obj.cls h
theorem tupO_inst {vs:List Value}:notInst (tupO vs):=fun C d h=>by cases congrArg Obj.cls h
theorem listOf_ne {its:Array Value} {k:Nat}:∀ es n e f,es.find? (fun e=>e.key.isStr (Fld.nm f)) = some e→listOf its k ≠ dictOf es n:=fun _ _ _ _ _=>list_ne_dict
theorem RR.setList (R:RR prog w cl σ priv news) {vs vs':List SV} {its its':Array Value} {n n':Nat} (ha:σ a = some (.list vs)) (hm:(a,listOf its n) ∈ news) (hv:VRs news vs' its'.toList) :
    RR prog w cl (upd σ a (.list vs')) priv (updL news a (listOf its' n'))∧Per news (updL news a (listOf its' n')):=by
  have hp:Per news (updL news a (listOf its' n')):=Per.upd R.nd hm listOf_tup
  exact ⟨R.set1 ha hm listOf_inst listOf_tup listOf_ne ⟨its',n',updL_self hm,hv.mono hp⟩,hp⟩
theorem RR.setInst (R:RR prog w cl σ priv news) {C:Addr} {es es':List DictEntry} {n n':Nat} {x:DictEntry} {f:Fld} (hi:(a,instObj C d) ∈ news) (hm:(d,dictOf es n) ∈ news) (hpd:d ∉ priv.map (·.1))
    (hf:es.find? (fun e=>e.key.isStr f.nm) = some x)
    (ha:σ a = some so) (hnew:OR prog w cl priv (updL news d (dictOf es' n')) a so'):RR prog w cl (upd σ a so') priv (updL news d (dictOf es' n'))∧Per news (updL news d (dictOf es' n')):=by
  have hp:Per news (updL news d (dictOf es' n')):=Per.upd R.nd hm dictOf_tup
  refine ⟨R.turn hm dictOf_inst (fun _ h=>h) (fun p hp'=>?_) fun b y e=>?_,hp⟩
  · obtain ⟨b,y⟩:=p
    refine updL_ne (R.pv _ hp') fun (q:b = d)=>hpd ?_
    subst q
    exact List.mem_map.mpr ⟨_,hp',rfl⟩
  · by_cases hb:b = a
    · subst hb
      rw [upd_same] at e
      cases e
      exact ⟨(R.ob _ _ ha).1,hnew⟩
    · rw [upd_ne _ _ hb] at e
      have O:=R.ob b y e
      refine ⟨O.1,O.2.upd R.nd hm dictOf_tup ?_ ?_⟩
      · rintro rfl
        cases y with
        | node r=>obtain ⟨d,es,n,g1,g2,g3,g4⟩:=O.2; have:=mem_eq R.nd hm g1; cases this
        | tree r=>obtain ⟨d,es,n,g1,g2,g3,g4⟩:=O.2; have:=mem_eq R.nd hm g1; cases this
        | list vs=>obtain ⟨its,n,g1,_⟩:=O.2; exact absurd (mem_eq R.nd g1 hm) list_ne_dict
        | dict kvs =>
          obtain ⟨o,k,g1,g2,_⟩:=O.2
          exact intDict_ne g2 hf (mem_eq R.nd g1 hm)
      · rintro C' dd hi' rfl
        exact hb (R.ui _ _ _ _ dd hi' hi)
theorem nodup_cons {l:Addr} (R:RR prog w cl σ priv news) (hf:∀ p ∈ news,p.1 < l):(((l,o) :: news).map (·.1)).Nodup:=by
  rw [List.map_cons,List.nodup_cons]
  refine ⟨fun hm=>?_,R.nd⟩
  obtain ⟨p,hp,e⟩:=List.mem_map.mp hm
  exact absurd (hf p hp) (by rw [e]; exact Nat.lt_irrefl _)
theorem RR.push (R:RR prog w cl σ priv news) {l:Addr} (hf:∀ p ∈ news,p.1 < l) (hd:notInst o):RR prog w cl σ priv ((l,o) :: news) where
  nd:=nodup_cons R hf
  pv:=fun p hp=>.tail _ (R.pv p hp)
  ob:=fun a x e=>⟨(R.ob a x e).1,(R.ob a x e).2.mono fun p hp=>.tail _ hp⟩
  ui:=fun a b C C' d hp hq=>by
    rcases List.mem_cons.mp hp with e | hp
    · exact absurd (congrArg Prod.snd e).symm (hd _ _)
    · rcases List.mem_cons.mp hq with e | hq
      · exact absurd (congrArg Prod.snd e).symm (hd _ _)
      · exact R.ui _ _ _ _ d hp hq
  ud:=fun a C d hp=>by
    rcases List.mem_cons.mp hp with e | hp
    · exact absurd (congrArg Prod.snd e).symm (hd _ _)
    · exact .tail _ (R.ud _ _ d hp)
  pi:=fun a C d hp=>by
    rcases List.mem_cons.mp hp with e | hp
    · exact absurd (congrArg Prod.snd e).symm (hd _ _)
    · exact R.pi _ _ d hp
theorem RR.notPriv (R:RR prog w cl σ priv news) {l:Addr} (hf:∀ p ∈ news,p.1 < l):l ∉ priv.map (·.1):=fun hm=>by
  obtain ⟨p,hp,rfl⟩:=List.mem_map.mp hm
  exact absurd (hf p (R.pv p hp)) (Nat.lt_irrefl _)
theorem RR.alloc (R:RR prog w cl σ priv news) {l:Addr} (hf:∀ p ∈ news,p.1 < l) (hd:notInst o) (hnew:OR prog w cl priv ((l,o) :: news) l so):RR prog w cl (upd σ l so) priv ((l,o) :: news) :=
  have P:=R.push (o:=o) hf hd
  ⟨P.nd,P.pv,fun a x e=>by
    by_cases ha:a = l
    · subst ha; rw [upd_same] at e; cases e; exact ⟨R.notPriv hf,hnew⟩
    · rw [upd_ne _ _ ha] at e; exact P.ob a x e,P.ui,P.ud,P.pi⟩
theorem RR.allocList (R:RR prog w cl σ priv news) {l:Addr} {vs:List SV} {its:Array Value} {n:Nat} (hf:∀ p ∈ news,p.1 < l) (hv:VRs news vs its.toList):RR prog w cl (upd σ l (.list vs)) priv ((l,listOf its n) :: news) :=
  R.alloc hf listOf_inst ⟨its,n,.head _,hv.mono Per.cons⟩
theorem RR.pushP (R:RR prog w cl σ priv news) {l:Addr} (hf:∀ p ∈ news,p.1 < l) (hd:notInst o):RR prog w cl σ ((l,o) :: priv) ((l,o) :: news) :=
  have P:=R.push (o:=o) hf hd
  ⟨P.nd,fun p hp=>(List.mem_cons.mp hp).elim (fun e=>e ▸ .head _) fun hp=>.tail _ (R.pv p hp),fun a x e=>by
    have O:=R.ob a x e
    refine ⟨fun hm=>?_,OR.mono (fun p hp=>.tail _ hp) (O.2.more fun d es n e f hm he hn hq=>?_)⟩
    · rcases List.mem_cons.mp hm with q | hm
      · have:=R.dom e
        obtain ⟨p,hp,e'⟩:=List.mem_map.mp this
        exact absurd (hf p hp) (by rw [e',q]; exact Nat.lt_irrefl _)
      · exact O.1 hm
    · rcases List.mem_cons.mp hq with q | hq
      · exact absurd (hf _ hm) (by rw [q]; exact Nat.lt_irrefl _)
      · exact hn hq,P.ui,P.ud,fun a C d hi hm=>by
    rcases List.mem_cons.mp hm with q | hm
    · rcases List.mem_cons.mp hi with e | hi
      · exact absurd (congrArg Prod.snd e).symm (hd _ _)
      · obtain ⟨p,hp,e⟩:=List.mem_map.mp (R.ud _ _ _ hi)
        exact absurd (hf p hp) (by rw [e,q]; exact Nat.lt_irrefl _)
    · exact P.pi _ _ _ hi hm⟩
end
end Mine
end
section
open PySem PySem.W PyProof.Rows PySem.Calls
namespace Mine
theorem VR.none {n:News1}:VR n .none .none:=rfl
theorem VR.bool {n:News1} (b:Bool):VR n (.bool b) (.bool b):=rfl
theorem VR.int {n:News1} (i:Int) (t:Tok):VR n (.int i) (.int i t):=⟨t,rfl⟩
theorem VR.ref {n:News1} (a:Addr):VR n (.ref a) (.ref a):=rfl
structure Cfg where
  A₀:Around
  A:Around
  base:Heap
  outer:List Env
  h₀:Heap
  fenv:Env
  L:Addr
  env:Env
structure Wld where
  prog:Program
  w:World
  K:Frag
  p:Program
  loose:List Str
  mg:Str→Option Value
  mb:Str→Option Value
  cl:Cls
  fa:Fid→Addr
noncomputable abbrev Wld.M (W:Wld):Model:=model W.prog W.w
noncomputable abbrev Wld.R (W:Wld):=RR W.prog W.w W.cl
structure Cfg.Ok (W:Wld) (c:Cfg) (n:Nat):Prop where
  B:Below c.A₀ c.base c.outer c.h₀
  hA:c.A.frames = some (c.fenv :: c.outer)
  hf:c.fenv.frame = some c.L
  hk:c.fenv.scope.kind = .function
  hh:c.A.handled = none
  X:W.K.In c.h₀
  T:TopRead W.p W.loose W.mg W.mb c.h₀
  hd:c.A.depth + n < 600
  hu:c.A.units + 3 * n < 9000
structure EnvOk (env:Env) (ns:Nms):Prop where
  sk:env.scope.kind = .function
  gl:env.globals = mainGlobals
  bl:env.builtins = builtinsNs
  nm:env.scope.names = ns
noncomputable def ObjNs (o:Obj) (m:Str→Option Value):Prop:=∃ es ep,o.data = .dict es ep∧StrKeys es∧∀ name,nsFind es name = m name
noncomputable def VarAt (env:Env) (L:Addr) (m:Str→Option Value) (priv news:News1) (x:Str) (sv:SV):Prop :=
  ∃ v,VR news sv v∧((env.kindOf x = some .local∧env.locals = L∧m x = some v) ∨
    (env.kindOf x = some .local∧∃ o m',(env.locals,o) ∈ priv∧ObjNs o m'∧m' x = some v) ∨
    (env.kindOf x = some .cell∧∃ cc o,env.cells.lookup x = some cc∧(cc,o) ∈ priv∧o.data = .cell (some v)))
theorem VarAt.mono {env:Env} {L:Addr} {m:Str→Option Value} {priv priv' news news':News1} {x:Str} {sv:SV} (h:VarAt env L m priv news x sv) (hp:Per news news') (hs:∀ p ∈ priv,p ∈ priv'):VarAt env L m priv' news' x sv:=by
  obtain ⟨v,hv,h⟩:=h
  refine ⟨v,hv.mono hp,?_⟩
  rcases h with h | ⟨hk,o,m',h1,h2⟩ | ⟨hk,cc,o,h1,h2,h3⟩
  · exact .inl h
  · exact .inr (.inl ⟨hk,o,m',hs _ h1,h2⟩)
  · exact .inr (.inr ⟨hk,cc,o,h1,hs _ h2,h3⟩)
noncomputable def NRes (env:Env) (sl:Sls) (ρ:Lc) (L:Addr) (m:Str→Option Value) (priv news:News1):Prop :=
  ∀ i x sv,sl[i]? = some (some x)→rd ρ i = some sv→VarAt env L m priv news x sv
theorem NRes.mono {env:Env} {sl:Sls} {ρ:Lc} {L:Addr} {m:Str→Option Value} {priv priv' news news':News1} (h:NRes env sl ρ L m priv news) (hp:Per news news') (hs:∀ p ∈ priv,p ∈ priv'):NRes env sl ρ L m priv' news' :=
  fun i x sv h1 h2=>(h i x sv h1 h2).mono hp hs
inductive PE (W:Wld) (c:Cfg) (m:Str→Option Value) (priv:News1) (s:Shared) (news:News1) (Q:SV→Hp→Prop) (v:Value) (s':Shared):Prop
  | mk (h':Heap) (tk:Nat) (news':News1) (sv:SV) (σ':Hp) (e:s' = { s with heap:=h',toks:=tk }) (F:Fr c.h₀ c.L h' m) (N:News c.h₀ c.L h' news') (R:W.R σ' priv news') (P:Per news news') (V:VR news' sv v) (q:Q sv σ')
theorem PE.trans {W:Wld} {c:Cfg} {m:Str→Option Value} {priv:News1} {s:Shared} {news news₁:News1} {Q:SV→Hp→Prop} {v:Value} {s':Shared} {h₁:Heap} {t₁:Nat}
    (hp:Per news news₁) (h:PE W c m priv { s with heap:=h₁,toks:=t₁ } news₁ Q v s'):PE W c m priv s news Q v s':=by
  obtain ⟨h',tk,news',sv,σ',rfl,F,N,R,P,V,q⟩:=h
  exact ⟨h',tk,news',sv,σ',rfl,F,N,R,hp.trans P,V,q⟩
theorem PE.now {W:Wld} {c:Cfg} {m:Str→Option Value} {priv:News1} {s:Shared} {news news':News1} {Q:SV→Hp→Prop} {v:Value} {h':Heap} {tk:Nat} {sv:SV} {σ':Hp}
    (F:Fr c.h₀ c.L h' m) (N:News c.h₀ c.L h' news') (R:W.R σ' priv news') (P:Per news news') (V:VR news' sv v) (q:Q sv σ'):PE W c m priv s news Q v { s with heap:=h',toks:=tk } :=
  ⟨h',tk,news',sv,σ',rfl,F,N,R,P,V,q⟩
inductive PEs (W:Wld) (c:Cfg) (m:Str→Option Value) (priv:News1) (s:Shared) (news:News1) (Q:List SV→Hp→Prop) (vs:List Value) (s':Shared):Prop
  | mk (h':Heap) (tk:Nat) (news':News1) (svs:List SV) (σ':Hp) (e:s' = { s with heap:=h',toks:=tk }) (F:Fr c.h₀ c.L h' m) (N:News c.h₀ c.L h' news') (R:W.R σ' priv news') (P:Per news news') (V:VRs news' svs vs) (q:Q svs σ')
noncomputable def CalOk (W:Wld) (Γ:Cal) (n:Nat):Prop :=
  ∀ f vs Q σ,Γ f vs Q σ→∀ (c:Cfg) m priv news s vals (X:Value→Shared→Prop),c.Ok W n→Fr c.h₀ c.L s.heap m→News c.h₀ c.L s.heap news→W.R σ priv news→VRs news vs vals →
    wpAny W.M c.A (call (.ref (W.fa f)) vals) (PE W c m priv s news Q) X s
structure Wld.Fns (W:Wld):Prop where
  nm:∀ f,nsIn W.K mainGlobals f.nm = some (some (.ref (W.fa f)))
  kp:∀ f,keepIn W.K (.ref (W.fa f)) = true
  bi:∀ x ∈ (["max","abs","len","sorted","range"]:List Str),nsIn W.K mainGlobals x = some none
section
variable {W:Wld} {c:Cfg} {n:Nat} {m:Str→Option Value} {priv news:News1} {s:Shared} {X:Value→Shared→Prop} {σ:Hp} {ρ:Lc} {ns:Nms} {sl:Sls} {Γ:Cal}
structure At (W:Wld) (c:Cfg) (n:Nat) (m:Str→Option Value) (priv news:News1) (s:Shared) (σ:Hp) (ρ:Lc) (ns:Nms) (sl:Sls):Prop where
  ok:c.Ok W n
  eo:EnvOk c.env ns
  F:Fr c.h₀ c.L s.heap m
  N:News c.h₀ c.L s.heap news
  R:W.R σ priv news
  nr:NRes c.env sl ρ c.L m priv news
theorem At.next (a:At W c n m priv news s σ ρ ns sl) {h':Heap} {tk:Nat} {news':News1} {σ':Hp} (F:Fr c.h₀ c.L h' m) (N:News c.h₀ c.L h' news') (R:W.R σ' priv news') (P:Per news news') :
    At W c n m priv news' { s with heap:=h',toks:=tk } σ' ρ ns sl:=⟨a.ok,a.eo,F,N,R,a.nr.mono P fun _ h=>h⟩
theorem At.end (a:At W c n m priv news s σ ρ ns sl) {Q:SV→Hp→Prop} {sv:SV} {v:Value} (V:VR news sv v) (q:Q sv σ):PE W c m priv s news Q v s :=
  ⟨s.heap,s.toks,news,sv,σ,rfl,a.F,a.N,a.R,Per.refl,V,q⟩
theorem At.endT (a:At W c n m priv news s σ ρ ns sl) {Q:SV→Hp→Prop} {sv:SV} {v:Value} {tk:Nat} (V:VR news sv v) (q:Q sv σ):PE W c m priv s news Q v { s with toks:=tk } :=
  ⟨s.heap,tk,news,sv,σ,rfl,a.F,a.N,a.R,Per.refl,V,q⟩
noncomputable abbrev SndE (W:Wld) (Γ:Cal) (c:Cfg) (n:Nat) (m:Str→Option Value) (priv:News1) (ρ:Lc) (ns:Nms) (sl:Sls) (e:E) (pe:PySem.Expr):Prop :=
  ∀ (Q:SV→Hp→Prop) (σ:Hp) (s:Shared) (news:News1) (X:Value→Shared→Prop),wpE Γ e ρ Q σ→At W c n m priv news s σ ρ ns sl→wpAny W.M c.A (eval pe c.env) (PE W c m priv s news Q) X s
theorem SndE.then {e:Mine.E} {pe:PySem.Expr} (h:SndE W Γ c n m priv ρ ns sl e pe) {Q₁:SV→Hp→Prop} {Q:Value→Shared→Prop} (a:At W c n m priv news s σ ρ ns sl) (w:wpE Γ e ρ Q₁ σ)
    (k:∀ h' tk news' sv σ' v,At W c n m priv news' { s with heap:=h',toks:=tk } σ' ρ ns sl→Per news news'→VR news' sv v→Q₁ sv σ'→Q v { s with heap:=h',toks:=tk }) :
    wpAny W.M c.A (eval pe c.env) Q X s :=
  wpAny_mono (h _ _ _ _ X w a) (fun v s' z=>by obtain ⟨h',tk,news',sv,σ',rfl,F,N,R,P,V,q⟩:=z; exact k h' tk news' sv σ' v (a.next F N R P) P V q) fun _ _ x=>x
theorem snd_const_none {k:Nat} {pos:Pos}:SndE W Γ c n m priv ρ ns sl .none (.Constant .none k pos):=fun _ _ _ _ _ h a=>Constant_none (a.end VR.none h)
theorem snd_const_bool {b:Bool} {k:Nat} {pos:Pos}:SndE W Γ c n m priv ρ ns sl (.bool b) (.Constant (.bool b) k pos):=fun _ _ _ _ _ h a=>Constant_bool (a.end (VR.bool _) h)
theorem snd_const_int {i:Nat} {k:Nat} {pos:Pos}:SndE W Γ c n m priv ρ ns sl (.int i) (.Constant (.int i) k pos):=fun Q σ s news X h a=>by
  show wpAny _ _ (mkInt i) _ _ _
  unfold mkInt
  exact wpAny_bind (wpAny_fresh (wpAny_pure (a.endT (VR.int _ _) h)))
theorem snd_var {i:Nat} {x:Str} {pos:Pos} (hv:varOk ns sl i x = true):SndE W Γ c n m priv ρ ns sl (.var i) (.Name x pos):=fun Q σ s news X h a=>by
  obtain ⟨sv,e,q⟩:=h
  unfold varOk at hv
  simp only [Bool.and_eq_true,beq_iff_eq,Bool.not_eq_true'] at hv
  obtain ⟨⟨h1,_⟩,h3⟩:=hv
  obtain ⟨v,V,r⟩:=a.nr i x sv h1 e
  refine wpAny_Name ?_ h3
  rcases r with ⟨hk,hl,hm⟩ | ⟨hk,o,m',ho,⟨es,ep,d1,d2,d3⟩,hm⟩ | ⟨hk,cc,o,hl,ho,hd⟩
  · exact wpAny_loadName_local a.eo.sk hk (by rw [hl]; exact a.F.ns) hm (a.end V q)
  · exact wpAny_loadName_local a.eo.sk hk ⟨o,es,ep,(a.N _ (a.R.pv _ ho)).1,d1,d2,d3⟩ hm (a.end V q)
  · exact wpAny_loadName_cell a.eo.sk hk hl ⟨o,(a.N _ (a.R.pv _ ho)).1,hd⟩ (a.end V q)
end
end Mine
end
section
open PySem PySem.W PyProof.Rows PySem.Calls
namespace Mine
structure Wld.Clss (W:Wld):Prop where
  pg:∀ C,C = W.cl.node ∨ C = W.cl.tree→∀ f:Fld,plainGet W.K C f.nm = true
  hd:∀ C,C = W.cl.node ∨ C = W.cl.tree→hasDictIn W.K C = true
  fi:∀ C,C = W.cl.node ∨ C = W.cl.tree→∀ f:Fld,findIn W.K (.ref C) f.nm = some none
  sa:∀ C,C = W.cl.node ∨ C = W.cl.tree→findIn W.K (.ref C) "__setattr__" = some (some (.builtin "object.__setattr__"))
  po:∀ C,C = W.cl.node ∨ C = W.cl.tree→plainOver W.K C = true
  tk:∀ C,C = W.cl.node ∨ C = W.cl.tree→∀ f:Fld,takerIn W.K C f.nm = some none
section
variable {W:Wld} {c:Cfg} {n:Nat} {m:Str→Option Value} {priv news:News1} {s:Shared} {X:Value→Shared→Prop} {σ:Hp} {ρ:Lc} {ns:Nms} {sl:Sls} {Γ:Cal}
theorem VR.handed {a:SV} {v:Value} (h:VR news a v):handedIn v = true:=by
  cases a with
  | none=>cases h; rfl
  | bool b=>cases h; rfl
  | int i=>obtain ⟨t,rfl⟩:=h; rfl
  | ref a=>cases h; rfl
  | tri i j k=>obtain ⟨a,_,_,_,rfl,_⟩:=h; rfl
theorem getL_of {es:List DictEntry} {x:Str} {e:DictEntry} (h:es.find? (fun e=>e.key.isStr x) = some e):getL x es = some (some e.val):=by
  unfold getL; rw [h]
theorem inst_of {a:Addr} {o:SO} {f:Fld} {x:SV} (R:W.R σ priv news) (h1:σ a = some o) (h2:o.get f = some x) :
    ∃ C d es k,(C = W.cl.node ∨ C = W.cl.tree)∧(a,instObj C d) ∈ news∧(d,dictOf es k) ∈ news∧d ∉ priv.map (·.1)∧EsR news o.get es:=by
  have O:=(R.ob a o h1).2
  cases o with
  | node r=>obtain ⟨d,es,k,i1,i2,i3,i4⟩:=O; exact ⟨_,d,es,k,.inl rfl,i1,i2,i3,i4⟩
  | tree r=>obtain ⟨d,es,k,i1,i2,i3,i4⟩:=O; exact ⟨_,d,es,k,.inr rfl,i1,i2,i3,i4⟩
  | list vs=>cases h2
  | dict kvs=>cases h2
theorem attrBase {v:PySem.Expr} {attr:Str} {env:Env} {t:Sem Value} (h:notCall v = true):attributeBase v attr env t = t:=by
  cases v <;> first | rfl | cases h
theorem snd_attr (KC:W.Clss) {e:Mine.E} {f:Fld} {v:PySem.Expr} {x:Str} {pos:Pos} (hx:(x == f.nm) = true) (hc:notCall v = true) (ih:SndE W Γ c n m priv ρ ns sl e v) :
    SndE W Γ c n m priv ρ ns sl (.attr e f) (.Attribute v x pos):=fun Q σ s news X h a=>by
  obtain rfl:=beq_iff_eq.mp hx
  refine Attribute_any_ ?_ (by show (do let o ← attributeBase v f.nm c.env (eval v c.env); standAt pos.atName; let r ← holding [o] (getAttr o f.nm true); letTemporaryGo v o r; pure r) = _; rw [attrBase hc])
  refine ih.then a h fun h' tk news' sv σ' v' a' P V q=>?_
  obtain ⟨wv,e1,q⟩:=q
  obtain ⟨l,e2,e1⟩:=Option.bind_eq_some_iff.mp e1
  obtain ⟨o,e3,e4⟩:=Option.bind_eq_some_iff.mp e1
  cases sv <;> try cases e2
  cases V
  obtain ⟨C,d,es,k,hC,i1,i2,i3,i4⟩:=inst_of a'.R e3 e4
  obtain ⟨en,he,hv⟩:=i4.2 _ _ e4
  refine get_own (K:=W.K) a'.F a'.ok.X (InstAt.of_news a'.N i1 i2) (KC.pg C hC f) (KC.hd C hC) (KC.fi C hC f) rfl (getL_of he) hv.handed ?_
  exact PE.now a'.F a'.N a'.R P hv q
theorem snd_bin {op:AOp} {e₁ e₂:Mine.E} {p₁ p₂:PySem.Expr} {o:Operator} {pos:Pos} (ho:(o == op.py) = true) (ih₁:SndE W Γ c n m priv ρ ns sl e₁ p₁) (ih₂:SndE W Γ c n m priv ρ ns sl e₂ p₂) :
    SndE W Γ c n m priv ρ ns sl (.bin op e₁ e₂) (.BinOp p₁ o p₂ pos):=fun Q σ s news X h a=>by
  obtain rfl:=beq_iff_eq.mp ho
  refine wpAny_BinOp (ih₁.then a h fun h' tk news' sv σ' v a' P V q=>ih₂.then a' q fun h'' tk' news'' sw σ'' u a'' P' V' q'=>?_)
  obtain ⟨i,e1,j,e2,k,e3,q'⟩:=q'
  cases sv <;> cases e1
  cases sw <;> cases e2
  obtain ⟨t,rfl⟩:=V
  obtain ⟨t',rfl⟩:=V'
  have fin:∀ tk2,PE W c m priv s news Q (.int k tk2) { s with heap:=h'',toks:=tk' + 1 }:=fun tk2=>PE.now a''.F a''.N a''.R (P.trans P') (VR.int _ _) q'
  cases op with
  | add=>cases e3; exact add_int (fin _)
  | sub=>cases e3; exact sub_int (fin _)
  | mul =>
    simp only [arith] at e3
    split at e3
    · rename_i hb; cases e3; exact mul_int (fin _) (IntMulOk.of_left (Nat.le_trans (intBits_le hb.1) (by decide)))
    · cases e3
  | fdiv =>
    simp only [arith] at e3
    split at e3
    · rename_i hb
      cases e3
      refine floordiv_int hb.1 (fin _) (.inl ?_)
      unfold Builtin.divisionGoesByPylong
      have hz:¬ ((if (j == 0) = true then 0 else j.natAbs.log2 / 30 + 1) > 300):=by
        split
        · omega
        · have:j.natAbs.log2 < 40:=(Nat.log2_lt (by intro h; exact hb.1 (Int.natAbs_eq_zero.mp h))).mpr hb.2.2
          omega
      simp only [decide_eq_false hz,Bool.false_and]
    · cases e3
  | mod =>
    simp only [arith] at e3
    split at e3
    · rename_i hb; cases e3; exact mod_int' hb (fin _)
    · cases e3
theorem behind_ok {op:CmpOp} {r:PySem.Expr} (h:notSet r = true):behindInMarks op r = false:=by
  cases r <;> first | rfl | cases h
theorem cmp_ints {op:COp} {i j:Int} {t t':Tok} {Q:Value→Shared→Prop} (h:Q (.bool (cmpI op i j)) s):wpAny W.M c.A (compareOp op.py (.int i t) (.int j t')) Q X s:=by
  cases op with
  | eq=>exact eq_int (by rw [show (i == j) = cmpI .eq i j from rfl]; exact h)
  | ne=>exact ne_int (by rw [show (i != j) = cmpI .ne i j by simp [cmpI,bne,BEq.beq]]; exact h)
  | lt=>exact lt_int h
  | le=>exact le_int h
  | gt=>exact gt_int h
  | ge=>exact ge_int h
end
end Mine
end
section
open PySem PySem.W PyProof.Rows PySem.Calls
namespace Mine
section
variable {W:Wld} {c:Cfg} {n:Nat} {m:Str→Option Value} {priv news:News1} {s:Shared} {X:Value→Shared→Prop} {σ:Hp} {ρ:Lc} {ns:Nms} {sl:Sls} {Γ:Cal}
inductive PT (W:Wld) (c:Cfg) (m:Str→Option Value) (priv:News1) (s:Shared) (news:News1) (K:Bool→Hp→Prop) (b:Bool) (s':Shared):Prop
  | mk (h':Heap) (tk:Nat) (news':News1) (σ':Hp) (e:s' = { s with heap:=h',toks:=tk }) (F:Fr c.h₀ c.L h' m) (N:News c.h₀ c.L h' news') (R:W.R σ' priv news') (P:Per news news') (q:K b σ')
theorem PT.trans {news₁:News1} {K:Bool→Hp→Prop} {v:Bool} {s':Shared} {h₁:Heap} {t₁:Nat}
    (hp:Per news news₁) (h:PT W c m priv { s with heap:=h₁,toks:=t₁ } news₁ K v s'):PT W c m priv s news K v s':=by
  obtain ⟨h',tk,news',σ',rfl,F,N,R,P,q⟩:=h
  exact ⟨h',tk,news',σ',rfl,F,N,R,hp.trans P,q⟩
noncomputable abbrev onB (K:Bool→Hp→Prop):SV→Hp→Prop:=fun v σ=>on v.asBool fun t=>K t σ
noncomputable abbrev SndT (W:Wld) (Γ:Cal) (c:Cfg) (n:Nat) (m:Str→Option Value) (priv:News1) (ρ:Lc) (ns:Nms) (sl:Sls) (e:Mine.E) (pe:PySem.Expr):Prop :=
  ∀ (K:Bool→Hp→Prop) (σ:Hp) (s:Shared) (news:News1) (X:Value→Shared→Prop),wpE Γ e ρ (onB K) σ→At W c n m priv news s σ ρ ns sl→wpAny W.M c.A (PySem.isTrue pe c.env (eval pe c.env)) (PT W c m priv s news K) X s
theorem asBool_some {sv:SV} {t:Bool} (h:sv.asBool = some t):sv = .bool t:=by cases sv <;> cases h; rfl
theorem asInt_some {sv:SV} {t:Int} (h:sv.asInt = some t):sv = .int t:=by cases sv <;> cases h; rfl
theorem asRef_some {sv:SV} {t:Nat} (h:sv.asRef = some t):sv = .ref t:=by cases sv <;> cases h; rfl
theorem pt_of_pe {K:Bool→Hp→Prop} {v:Value} {s':Shared} (h:PE W c m priv s news (onB K) v s'):wpAny W.M c.A (truthy v) (PT W c m priv s news K) X s':=by
  obtain ⟨h',tk,news',sv,σ',rfl,F,N,R,P,V,t,e,q⟩:=h
  obtain rfl:=asBool_some e
  cases V
  exact wpAny_truthy_bool ⟨h',tk,news',σ',rfl,F,N,R,P,q⟩
theorem SndT.then {e:Mine.E} {pe:PySem.Expr} (h:SndT W Γ c n m priv ρ ns sl e pe) {K:Bool→Hp→Prop} {Q:Bool→Shared→Prop} (a:At W c n m priv news s σ ρ ns sl) (w:wpE Γ e ρ (onB K) σ)
    (k:∀ h' tk news' σ' b,At W c n m priv news' { s with heap:=h',toks:=tk } σ' ρ ns sl→Per news news'→K b σ'→Q b { s with heap:=h',toks:=tk }) :
    wpAny W.M c.A (PySem.isTrue pe c.env (eval pe c.env)) Q X s :=
  wpAny_mono (h _ _ _ _ X w a) (fun b s' z=>by obtain ⟨h',tk,news',σ',rfl,F,N,R,P,q⟩:=z; exact k h' tk news' σ' b (a.next F N R P) P q) fun _ _ x=>x
noncomputable def plainT:PySem.Expr→Bool
  | .UnaryOp .Not _ _ | .BoolOp .. | .IfExp .. | .Compare ..=>false
  | _=>true
theorem isTrue_of_plain {e:PySem.Expr} {env:Env} {t:Sem Value} (h:plainT e = true):PySem.isTrue e env t = (do let v ← t; standAt e.pos; holding [v] (truthy v)):=by
  cases e with
  | UnaryOp o _ _=>cases o <;> first | rfl | cases h
  | BoolOp _ _ _=>cases h
  | IfExp _ _ _ _=>cases h
  | Compare _ _ _ _=>cases h
  | _=>rfl
theorem sndT_plain {e:Mine.E} {pe:PySem.Expr} (h:plainT pe = true) (ih:SndE W Γ c n m priv ρ ns sl e pe):SndT W Γ c n m priv ρ ns sl e pe:=fun K σ s news X w a =>
  isTrue_plain (wpAny_mono (ih _ _ _ _ X w a) (fun _ _ p=>pt_of_pe p) fun _ _ x=>x) (isTrue_of_plain h)
noncomputable abbrev CmpStep (W:Wld) (c:Cfg) (n:Nat) (m:Str→Option Value) (priv:News1) (ρ:Lc) (ns:Nms) (sl:Sls) (o:CmpOp) (C:SV→SV→Hp→(SV→Hp→Prop)→Prop):Prop :=
  ∀ (Q:SV→Hp→Prop) (σ:Hp) (s:Shared) (news:News1) (X:Value→Shared→Prop) (sv sw:SV) (v u:Value),VR news sv v→VR news sw u→At W c n m priv news s σ ρ ns sl→C sv sw σ Q →
    wpAny W.M c.A (compareOp o v u) (PE W c m priv s news Q) X s
theorem keepV {e₂:Mine.E} {p₂:PySem.Expr} {Q₁:SV→Hp→Prop} {Q:Value→Shared→Prop} {s:Shared} {news:News1} {σ:Hp} {sv:SV} {v:Value} {X:Value→Shared→Prop} (ih:SndE W Γ c n m priv ρ ns sl e₂ p₂) (a:At W c n m priv news s σ ρ ns sl) (w:wpE Γ e₂ ρ Q₁ σ) (V:VR news sv v)
    (k:∀ h' tk news' sw σ' u,At W c n m priv news' { s with heap:=h',toks:=tk } σ' ρ ns sl→Per news news'→VR news' sv v→VR news' sw u→Q₁ sw σ'→Q u { s with heap:=h',toks:=tk }):wpAny W.M c.A (eval p₂ c.env) Q X s :=
  ih.then a w fun h' tk news' sw σ' u a' P V' q=>k h' tk news' sw σ' u a' P (V.mono P) V' q
theorem snd_cmp_of {o:CmpOp} {C:SV→SV→Hp→(SV→Hp→Prop)→Prop} {e e₁ e₂:Mine.E} {p₁ p₂:PySem.Expr} {pos:Pos} (he:∀ Q σ,wpE Γ e ρ Q σ = wpE Γ e₁ ρ (fun v σ=>wpE Γ e₂ ρ (fun w σ=>C v w σ Q) σ) σ)
    (st:CmpStep W c n m priv ρ ns sl o C) (hn:notSet p₂ = true) (ih₁:SndE W Γ c n m priv ρ ns sl e₁ p₁) (ih₂:SndE W Γ c n m priv ρ ns sl e₂ p₂) :
    SndE W Γ c n m priv ρ ns sl e (.Compare p₁ [o] [p₂] pos)∧SndT W Γ c n m priv ρ ns sl e (.Compare p₁ [o] [p₂] pos):=by
  constructor
  · intro Q σ s news X h a
    rw [he] at h
    refine wpAny_Compare1 (ih₁.then a h fun h' tk news' sv σ' v a' P V q=>keepV ih₂ a' q V fun h'' tk' news'' sw σ'' u a'' P' V₁ V' q'=>?_) (behind_ok hn)
    exact wpAny_mono (st Q _ _ _ X _ _ _ _ V₁ V' a'' q') (fun _ _ z=>PE.trans (P.trans P') z) fun _ _ x=>x
  · intro K σ s news X h a
    rw [he] at h
    refine wpAny_isTrue_Compare1 (ih₁.then a h fun h' tk news' sv σ' v a' P V q=>keepV ih₂ a' q V fun h'' tk' news'' sw σ'' u a'' P' V₁ V' q'=>?_) (behind_ok hn)
    exact wpAny_mono (st _ _ _ _ X _ _ _ _ V₁ V' a'' q') (fun _ _ z=>pt_of_pe (PE.trans (P.trans P') z)) fun _ _ x=>x
theorem step_cmp {op:COp}:CmpStep W c n m priv ρ ns sl op.py (fun v w σ Q=>on v.asInt fun i=>on w.asInt fun j=>Q (.bool (cmpI op i j)) σ):=fun Q σ s news X sv sw v u V V' a q=>by
  obtain ⟨i,e1,j,e2,q⟩:=q
  obtain rfl:=asInt_some e1
  obtain rfl:=asInt_some e2
  obtain ⟨t,rfl⟩:=V
  obtain ⟨t',rfl⟩:=V'
  exact cmp_ints (a.end (VR.bool _) q)
theorem RR.alive (R:W.R σ priv news) {h₀ h:Heap} {L:Addr} (N:News h₀ L h news) {a:Addr} (e:(σ a).isSome = true):∃ o,h.get? a = some o∧o.cls ≠ .type "tuple":=by
  obtain ⟨so,e⟩:=Option.isSome_iff_exists.mp e
  have O:=(R.ob a so e).2
  cases so with
  | node r=>obtain ⟨d,es,k,i1,_⟩:=O; exact ⟨_,(N _ i1).1,fun h=>by cases h⟩
  | tree r=>obtain ⟨d,es,k,i1,_⟩:=O; exact ⟨_,(N _ i1).1,fun h=>by cases h⟩
  | list vs=>obtain ⟨its,k,i1,_⟩:=O; exact ⟨_,(N _ i1).1,listOf_cls⟩
  | dict kvs =>
    obtain ⟨o,k,i1,⟨_,_,hx,_⟩,_⟩:=O
    refine ⟨_,(N _ i1).1,fun h=>?_⟩
    rw [hx.1] at h
    exact absurd (Value.type.inj h) (by decide)
theorem step_is {neg:Bool}:CmpStep W c n m priv ρ ns sl (if neg then .IsNot else .Is) (fun v w σ Q=>isOk σ v w∧Q (.bool (neg != decide (v = w))) σ):=fun Q σ s news X sv sw v u V V' a q=>by
  obtain ⟨ok,q⟩:=q
  have fin:∀ b,(neg != decide (sv = sw)) = b→PE W c m priv s news Q (.bool b) s:=fun b e=>by subst e; exact a.end (VR.bool _) q
  cases sv <;> cases sw <;> first | exact ok.elim | skip
  · cases V; cases V'
    cases neg
    · exact wpAny_is_self rfl (fin _ (by simp))
    · exact wpAny_isNot_self rfl (fin _ (by simp))
  · cases V; cases V'
    cases neg
    · exact wpAny_is_other rfl (by intro x; cases x) (fin _ (by simp))
    · exact wpAny_isNot_other rfl (by intro x; cases x) (fin _ (by simp))
  · cases V; cases V'
    cases neg
    · exact wpAny_is_other rfl (by intro x; cases x) (fin _ (by simp))
    · exact wpAny_isNot_other rfl (by intro x; cases x) (fin _ (by simp))
  · rename_i x y
    cases V; cases V'
    by_cases e:x = y
    · subst e
      cases neg
      · exact wpAny_is_ref_self (fin _ (by simp))
      · exact isnot_ref_same (fin _ (by simp))
    · obtain ⟨h1,h2⟩:=ok.resolve_left e
      obtain ⟨o1,g1,hc⟩:=RR.alive a.R a.N h1
      obtain ⟨o2,g2,_⟩:=RR.alive a.R a.N h2
      cases neg
      · exact wpAny_is_ref_other e g1 g2 hc (fin _ (by simp [show ¬ SV.ref x = SV.ref y from fun q=>e (by cases q; rfl)]))
      · exact wpAny_isNot_ref_other e g1 g2 hc (fin _ (by simp [show ¬ SV.ref x = SV.ref y from fun q=>e (by cases q; rfl)]))
end
end Mine
end
section
open PySem PySem.W PyProof.Rows PySem.Calls
namespace Mine
section
variable {W:Wld} {c:Cfg} {n:Nat} {m:Str→Option Value} {priv news:News1} {s:Shared} {X:Value→Shared→Prop} {σ:Hp} {ρ:Lc} {ns:Nms} {sl:Sls} {Γ:Cal}
theorem snd_not {e:Mine.E} {p:PySem.Expr} {pos:Pos} (ih:SndE W Γ c n m priv ρ ns sl e p):SndE W Γ c n m priv ρ ns sl (.not e) (.UnaryOp .Not p pos):=fun Q σ s news X h a=>by
  refine UnaryOp_ (ih.then a h fun h' tk news' sv σ' v a' P V q=>not_of ?_)
  obtain ⟨t,e1,q⟩:=q
  obtain rfl:=asBool_some e1
  cases V
  exact wpAny_truthy_bool (PE.now a'.F a'.N a'.R P (VR.bool _) q)
theorem sndT_not {e:Mine.E} {p:PySem.Expr} {pos:Pos} (ih:SndT W Γ c n m priv ρ ns sl e p):SndT W Γ c n m priv ρ ns sl (.not e) (.UnaryOp .Not p pos):=fun K σ s news X h a=>by
  refine isTrue_not ?_
  have h':wpE Γ e ρ (onB fun b σ=>K (!b) σ) σ:=by
    have e1:wpE Γ (.not e) ρ (onB K) σ = wpE Γ e ρ (fun v σ=>on v.asBool fun b=>onB K (.bool !b) σ) σ:=rfl
    rw [e1] at h
    have e2:(fun v σ=>on v.asBool fun b=>onB K (SV.bool !b) σ) = onB fun b σ=>K (!b) σ:=by
      funext v σ
      unfold onB
      congr 1
      funext b
      exact propext (on_some _ _)
    rw [e2] at h
    exact h
  exact wpAny_mono (ih _ _ _ _ X h' a) (fun b s' ⟨h1,h2,h3,h4,h5,h6,h7,h8,h9,h10⟩=>⟨h1,h2,h3,h4,h5,h6,h7,h8,h9,h10⟩) fun _ _ x=>x
theorem snd_ite {cc a b:Mine.E} {p q r:PySem.Expr} {pos:Pos} (i₁:SndT W Γ c n m priv ρ ns sl cc p) (i₂:SndE W Γ c n m priv ρ ns sl a q) (i₃:SndE W Γ c n m priv ρ ns sl b r) :
    SndE W Γ c n m priv ρ ns sl (.ite cc a b) (.IfExp p q r pos):=fun Q σ s news X h at'=>by
  refine IfExp_ (i₁.then (K:=fun t σ=>if t then wpE Γ a ρ Q σ else wpE Γ b ρ Q σ) at' h fun h' tk news' σ' t a' P k=>?_)
  cases t with
  | true=>exact wpAny_mono (i₂ _ _ _ _ X k a') (fun _ _ z=>z.trans P) fun _ _ x=>x
  | false=>exact wpAny_mono (i₃ _ _ _ _ X k a') (fun _ _ z=>z.trans P) fun _ _ x=>x
theorem sndT_ite {cc a b:Mine.E} {p q r:PySem.Expr} {pos:Pos} (i₁:SndT W Γ c n m priv ρ ns sl cc p) (i₂:SndT W Γ c n m priv ρ ns sl a q) (i₃:SndT W Γ c n m priv ρ ns sl b r) :
    SndT W Γ c n m priv ρ ns sl (.ite cc a b) (.IfExp p q r pos):=fun K σ s news X h at'=>by
  refine isTrue_IfExp (i₁.then (K:=fun t σ=>if t then wpE Γ a ρ (onB K) σ else wpE Γ b ρ (onB K) σ) at' h fun h' tk news' σ' t a' P k=>?_)
  cases t with
  | true=>exact wpAny_mono (i₂ _ _ _ _ X k a') (fun _ _ z=>z.trans P) fun _ _ x=>x
  | false=>exact wpAny_mono (i₃ _ _ _ _ X k a') (fun _ _ z=>z.trans P) fun _ _ x=>x
theorem snd_and {a b:Mine.E} {p q:PySem.Expr} {r:List PySem.Expr} {pos:Pos} (i₁:SndE W Γ c n m priv ρ ns sl a p) (i₂:SndE W Γ c n m priv ρ ns sl b (match r with | []=>q | _=>.BoolOp .And (q :: r) pos)) :
    SndE W Γ c n m priv ρ ns sl (.and a b) (.BoolOp .And (p :: q :: r) pos):=fun Q σ s news X h at'=>by
  refine BoolOp_and (i₁.then at' h fun h' tk news' sv σ' v a' P V k=>?_)
  obtain ⟨t,e1,k⟩:=k
  obtain rfl:=asBool_some e1
  cases V
  refine wpAny_truthy_bool ?_
  cases t with
  | true =>
    have z:=wpAny_mono (i₂ _ _ _ _ X k a') (fun _ _ z=>z.trans P) fun _ _ x=>x
    cases r with
    | nil=>exact BoolOp_one z
    | cons _ _=>exact z
  | false=>exact PE.now a'.F a'.N a'.R P (VR.bool _) k
theorem snd_or {a b:Mine.E} {p q:PySem.Expr} {r:List PySem.Expr} {pos:Pos} (i₁:SndE W Γ c n m priv ρ ns sl a p) (i₂:SndE W Γ c n m priv ρ ns sl b (match r with | []=>q | _=>.BoolOp .Or (q :: r) pos)) :
    SndE W Γ c n m priv ρ ns sl (.or a b) (.BoolOp .Or (p :: q :: r) pos):=fun Q σ s news X h at'=>by
  refine BoolOp_or (i₁.then at' h fun h' tk news' sv σ' v a' P V k=>?_)
  obtain ⟨t,e1,k⟩:=k
  obtain rfl:=asBool_some e1
  cases V
  refine wpAny_truthy_bool ?_
  cases t with
  | false =>
    have z:=wpAny_mono (i₂ _ _ _ _ X k a') (fun _ _ z=>z.trans P) fun _ _ x=>x
    cases r with
    | nil=>exact BoolOp_one z
    | cons _ _=>exact z
  | true=>exact PE.now a'.F a'.N a'.R P (VR.bool _) k
theorem allTrue_cons {op:PySem.BoolOp} {x:PySem.Expr} {rest:List PySem.Expr} {env:Env}:allTrue op (x :: rest) env = (do
    match op,← PySem.isTrue x env (eval x env) with
    | .And,false=>pure false
    | .Or,true=>pure true
    | _,_=>allTrue op rest env):=rfl
theorem isTrue_bool {op:PySem.BoolOp} {vs:List PySem.Expr} {pos:Pos} {env:Env} {t:Sem Value}:PySem.isTrue (.BoolOp op vs pos) env t = allTrue op vs env:=rfl
theorem sndT_and {a b:Mine.E} {p q:PySem.Expr} {r:List PySem.Expr} {pos:Pos} (i₁:SndT W Γ c n m priv ρ ns sl a p) (i₂:SndT W Γ c n m priv ρ ns sl b (match r with | []=>q | _=>.BoolOp .And (q :: r) pos)) :
    SndT W Γ c n m priv ρ ns sl (.and a b) (.BoolOp .And (p :: q :: r) pos):=fun K σ s news X h at'=>by
  rw [isTrue_bool,allTrue_cons]
  have h':wpE Γ a ρ (onB fun t σ=>if t then wpE Γ b ρ (onB K) σ else K false σ) σ:=by
    have e2:(fun (v:SV) σ=>on v.asBool fun t=>if t = true then wpE Γ b ρ (onB K) σ else onB K v σ) = onB fun t σ=>if t then wpE Γ b ρ (onB K) σ else K false σ:=by
      funext v σ
      unfold onB on
      refine propext ⟨?_,?_⟩
      · rintro ⟨t,e,z⟩
        refine ⟨t,e,?_⟩
        cases t with
        | true=>exact z
        | false=>obtain ⟨t',e',z⟩:=z; rw [e] at e'; cases e'; exact z
      · rintro ⟨t,e,z⟩
        refine ⟨t,e,?_⟩
        cases t with
        | true=>exact z
        | false=>exact ⟨_,e,z⟩
    rw [← e2]
    exact h
  refine wpAny_bind (i₁.then at' h' fun h₁ tk news' σ' t a' P k=>?_)
  cases t with
  | false=>exact wpAny_pure ⟨_,_,_,_,rfl,a'.F,a'.N,a'.R,P,k⟩
  | true =>
    have z:=wpAny_mono (i₂ _ _ _ _ X k a') (fun _ _ z=>z.trans P) fun _ _ x=>x
    cases r with
    | nil =>
      show wpAny _ _ (allTrue .And [q] c.env) _ _ _
      rw [allTrue_cons]
      refine wpAny_bind (wpAny_mono z (fun t s' y=>?_) fun _ _ x=>x)
      cases t with
      | false=>exact wpAny_pure y
      | true=>exact wpAny_pure y
    | cons _ _=>exact z
theorem sndT_or {a b:Mine.E} {p q:PySem.Expr} {r:List PySem.Expr} {pos:Pos} (i₁:SndT W Γ c n m priv ρ ns sl a p) (i₂:SndT W Γ c n m priv ρ ns sl b (match r with | []=>q | _=>.BoolOp .Or (q :: r) pos)) :
    SndT W Γ c n m priv ρ ns sl (.or a b) (.BoolOp .Or (p :: q :: r) pos):=fun K σ s news X h at'=>by
  rw [isTrue_bool,allTrue_cons]
  have h':wpE Γ a ρ (onB fun t σ=>if t then K true σ else wpE Γ b ρ (onB K) σ) σ:=by
    have e2:(fun (v:SV) σ=>on v.asBool fun t=>if t = true then onB K v σ else wpE Γ b ρ (onB K) σ) = onB fun t σ=>if t then K true σ else wpE Γ b ρ (onB K) σ:=by
      funext v σ
      unfold onB on
      refine propext ⟨?_,?_⟩
      · rintro ⟨t,e,z⟩
        refine ⟨t,e,?_⟩
        cases t with
        | false=>exact z
        | true=>obtain ⟨t',e',z⟩:=z; rw [e] at e'; cases e'; exact z
      · rintro ⟨t,e,z⟩
        refine ⟨t,e,?_⟩
        cases t with
        | false=>exact z
        | true=>exact ⟨_,e,z⟩
    rw [← e2]
    exact h
  refine wpAny_bind (i₁.then at' h' fun h₁ tk news' σ' t a' P k=>?_)
  cases t with
  | true=>exact wpAny_pure ⟨_,_,_,_,rfl,a'.F,a'.N,a'.R,P,k⟩
  | false =>
    have z:=wpAny_mono (i₂ _ _ _ _ X k a') (fun _ _ z=>z.trans P) fun _ _ x=>x
    cases r with
    | nil =>
      show wpAny _ _ (allTrue .Or [q] c.env) _ _ _
      rw [allTrue_cons]
      refine wpAny_bind (wpAny_mono z (fun t s' y=>?_) fun _ _ x=>x)
      cases t with
      | false=>exact wpAny_pure y
      | true=>exact wpAny_pure y
    | cons _ _=>exact z
noncomputable abbrev SndEs (W:Wld) (Γ:Cal) (c:Cfg) (n:Nat) (m:Str→Option Value) (priv:News1) (ρ:Lc) (ns:Nms) (sl:Sls) (es:Mine.Es) (ps:List PySem.Expr):Prop :=
  ∀ (Q:List SV→Hp→Prop) (σ:Hp) (s:Shared) (news:News1) (X:Value→Shared→Prop) (pos:Pos),wpEs Γ es ρ Q σ→At W c n m priv news s σ ρ ns sl→wpAny W.M c.A (spliced (backTo pos (starEach ps c.env))) (PEs W c m priv s news Q) X s
theorem star_cons {p:PySem.Expr} {r:List PySem.Expr} {env:Env} (h:notStar p = true):starEach (p :: r) env = (false,eval p env) :: starEach r env:=by
  cases p <;> first | rfl | cases h
theorem star_none {ps:List PySem.Expr} {env:Env} {pos:Pos} (h:ps.all notStar = true):(backTo pos (starEach ps env)).any (·.1) = false:=by
  induction ps with
  | nil=>rfl
  | cons p r ih =>
    simp only [List.all_cons,Bool.and_eq_true] at h
    rw [star_cons h.1]
    show (false || (backTo pos (starEach r env)).any (·.1)) = false
    rw [ih h.2]
    rfl
theorem SndEs.then {es:Mine.Es} {ps:List PySem.Expr} (h:SndEs W Γ c n m priv ρ ns sl es ps) {Q₁:List SV→Hp→Prop} {Q:List Value→Shared→Prop} {pos:Pos} (a:At W c n m priv news s σ ρ ns sl) (w:wpEs Γ es ρ Q₁ σ)
    (k:∀ h' tk news' svs σ' vs,At W c n m priv news' { s with heap:=h',toks:=tk } σ' ρ ns sl→Per news news'→VRs news' svs vs→Q₁ svs σ'→Q vs { s with heap:=h',toks:=tk }) :
    wpAny W.M c.A (spliced (backTo pos (starEach ps c.env))) Q X s :=
  wpAny_mono (h _ _ _ _ X pos w a) (fun v s' z=>by obtain ⟨h',tk,news',sv,σ',rfl,F,N,R,P,V,q⟩:=z; exact k h' tk news' sv σ' v (a.next F N R P) P V q) fun _ _ x=>x
theorem snds_nil:SndEs W Γ c n m priv ρ ns sl .nil []:=fun _ σ s news _ _ h a=>spliced_none ⟨s.heap,s.toks,news,[],σ,rfl,a.F,a.N,a.R,Per.refl,trivial,h⟩
theorem snds_cons {e:Mine.E} {r:Mine.Es} {p:PySem.Expr} {ps:List PySem.Expr} (hs:notStar p = true) (i₁:SndE W Γ c n m priv ρ ns sl e p) (i₂:SndEs W Γ c n m priv ρ ns sl r ps):SndEs W Γ c n m priv ρ ns sl (.cons e r) (p :: ps) :=
  fun Q σ s news X pos h a=>by
    refine spliced_more (i₁.then a h fun h' tk news' sv σ' v a' P V q=>i₂.then a' q fun h'' tk' news'' svs σ'' vs a'' P' V' q'=>?_) (star_cons hs)
    exact ⟨h'',tk',news'',sv :: svs,σ'',rfl,a''.F,a''.N,a''.R,P.trans P',⟨V.mono P',V'⟩,q'⟩
theorem VRs.len:∀ {as:List SV} {vs:List Value},VRs news as vs→as.length = vs.length
  | [],_ :: _,h=>h.elim
  | _ :: _,[],h=>h.elim
  | [],[],_=>rfl
  | _ :: _,_ :: _,⟨_,h⟩=>by rw [List.length_cons,List.length_cons,VRs.len h]
theorem nodef_of {x:Str} (h:(x == ("__debug__":Str)) = false):(x == Str.ofString "__debug__") = false:=h
theorem glob_parts {x:Str} (h:globOk ns x = true):ns.lookup x = some .globalImplicit∧(x == ("__debug__":Str)) = false:=by
  unfold globOk at h
  simp only [Bool.and_eq_true,beq_iff_eq,Bool.not_eq_true'] at h
  exact h
theorem At.kind (a:At W c n m priv news s σ ρ ns sl) {x:Str} {k:NameKind} (h:ns.lookup x = some k):c.env.kindOf x = some k:=by
  unfold Env.kindOf; rw [a.eo.nm]; exact h
theorem At.glob (a:At W c n m priv news s σ ρ ns sl) {x:Str} {pos:Pos} {v:Value} {Q:Value→Shared→Prop} (hx:globOk ns x = true) (e:nsIn W.K mainGlobals x = some (some v)) (h:Q v s):wpAny W.M c.A (eval (.Name x pos) c.env) Q X s :=
  nameG_K a.F a.ok.X a.ok.T e h a.eo.gl a.eo.sk (a.kind (glob_parts hx).1) (glob_parts hx).2
theorem At.bltn (a:At W c n m priv news s σ ρ ns sl) {x:Str} {pos:Pos} {v:Value} {Q:Value→Shared→Prop} (hx:globOk ns x = true) (e:nsIn W.K mainGlobals x = some none) (hv:bootBuiltins x = some v) (hn:x ≠ "__name__") (h:Q v s):wpAny W.M c.A (eval (.Name x pos) c.env) Q X s :=
  Name_function_global a.eo.sk (a.kind (glob_parts hx).1) (loadGlobal_builtin (by rw [a.eo.gl]; exact a.ok.T.g.keeps a.F.keep) (mg_none_of a.ok.X a.ok.T.g e) (by rw [a.eo.bl]; exact a.ok.T.b.keeps a.F.keep) ((a.ok.T.builtins x hn).trans hv) h) (glob_parts hx).2
theorem snd_call (KF:W.Fns) (hΓ:CalOk W Γ n) {f:Fid} {es:Mine.Es} {x:Str} {ps:List PySem.Expr} {pos p:Pos} (hx:(x == f.nm) = true) (hg:globOk ns x = true) (hst:ps.all notStar = true) (hes:ps = []→es = .nil) (ih:SndEs W Γ c n m priv ρ ns sl es ps) :
    SndE W Γ c n m priv ρ ns sl (.call f es) (.Call (.Name x p) ps [] pos):=fun Q σ s news X h a=>by
  obtain rfl:=beq_iff_eq.mp hx
  refine Call_ (a.glob hg (KF.nm f) ?_)
  have body:∀ (k:∀ vs s',PEs W c m priv s news (fun vs σ=>Γ f vs Q σ) vs s'→wpAny W.M c.A (call (.ref (W.fa f)) vs) (PE W c m priv s news Q) X s'),wpAny W.M c.A (callWith pos (.ref (W.fa f)) [] (backTo pos (starEach ps c.env)) []) (PE W c m priv s news Q) X s:=fun k=>by
    cases ps with
    | nil =>
      refine callWith_K0 (a.ok.X.keeps a.F.keep) (KF.kp f) ?_
      obtain rfl:=hes rfl
      exact k [] s ⟨s.heap,s.toks,news,[],σ,rfl,a.F,a.N,a.R,Per.refl,trivial,h⟩
    | cons p₁ pr =>
      simp only [List.all_cons,Bool.and_eq_true] at hst
      refine callWith_K a.ok.X (KF.kp f) (wpAny_mono (ih _ σ s news X pos h a) (fun vs s' z=>?_) fun _ _ x=>x) (star_cons hst.1) (star_none hst.2)
      refine ⟨?_,by rw [List.nil_append]; exact k vs s' z⟩
      obtain ⟨h',tk,news',svs,σ',rfl,F,N,R,P,V,q⟩:=z
      exact a.ok.X.keeps F.keep
  refine body fun vs s' z=>?_
  obtain ⟨h',tk,news',svs,σ',rfl,F,N,R,P,V,q⟩:=z
  exact wpAny_mono (hΓ f svs Q σ' q c m priv news' _ vs X a.ok F N R V) (fun _ _ z=>z.trans P) fun _ _ x=>x
end
end Mine
end
section
open PySem PySem.W PyProof.Rows PySem.Calls
namespace Mine
section
variable {W:Wld} {c:Cfg} {n:Nat} {m:Str→Option Value} {priv news:News1} {s:Shared} {X:Value→Shared→Prop} {σ:Hp} {ρ:Lc} {ns:Nms} {sl:Sls} {Γ:Cal}
theorem bcall (KF:W.Fns) {x:Str} {id:String} {es:Mine.Es} {ps:List PySem.Expr} {pos p:Pos} (hbn:nsIn W.K mainGlobals x = some none) (hb:bootBuiltins x = some (.builtin id)) (hn:x ≠ "__name__") (hg:globOk ns x = true)
    (hst:ps.all notStar = true) (hne:ps ≠ []) (ih:SndEs W Γ c n m priv ρ ns sl es ps) {Q₁:List SV→Hp→Prop} {Q:Value→Shared→Prop} (a:At W c n m priv news s σ ρ ns sl) (h:wpEs Γ es ρ Q₁ σ)
    (k:∀ h' tk news' svs σ' vs,At W c n m priv news' { s with heap:=h',toks:=tk } σ' ρ ns sl→Per news news'→VRs news' svs vs→Q₁ svs σ'→wpAny W.M c.A (call (.builtin id) vs) Q X { s with heap:=h',toks:=tk }) :
    wpAny W.M c.A (eval (.Call (.Name x p) ps [] pos) c.env) Q X s:=by
  have _:=KF
  cases ps with
  | nil=>exact absurd rfl hne
  | cons p₁ pr =>
    simp only [List.all_cons,Bool.and_eq_true] at hst
    exact Call_ (a.bltn hg hbn hb hn (callWith_method1 (ih.then a h fun h' tk news' svs σ' vs a' P V q=>k h' tk news' svs σ' vs a' P V q) (star_cons hst.1) (star_none hst.2)))
theorem snd_max (KF:W.Fns) {e₁ e₂:Mine.E} {x:Str} {p q:PySem.Expr} {ps' pos:Pos} (hx:(x == ("max":Str)) = true) (hg:globOk ns x = true) (h1:notStar p = true) (h2:notStar q = true)
    (i₁:SndE W Γ c n m priv ρ ns sl e₁ p) (i₂:SndE W Γ c n m priv ρ ns sl e₂ q):SndE W Γ c n m priv ρ ns sl (.max e₁ e₂) (.Call (.Name x ps') [p,q] [] pos):=fun Q σ s news X h a=>by
  obtain rfl:=beq_iff_eq.mp hx
  refine bcall KF (es:=.cons e₁ (.cons e₂ .nil)) (Q₁:=fun vs σ=>∃ v w,vs = [v,w]∧on v.asInt fun i=>on w.asInt fun j=>Q (.int (if j > i then j else i)) σ) (KF.bi _ (by simp)) (by boot_fast) (by decide) hg (by simp [h1,h2]) (by simp) (snds_cons h1 i₁ (snds_cons h2 i₂ snds_nil)) a ?_
    fun h' tk news' svs σ' vs a' P V k=>?_
  · have e:wpE Γ (.max e₁ e₂) ρ Q σ = wpE Γ e₁ ρ (fun v σ=>wpE Γ e₂ ρ (fun w σ=>on v.asInt fun i=>on w.asInt fun j=>Q (.int (if j > i then j else i)) σ) σ) σ:=rfl
    rw [e] at h
    have e2:∀ (v w:SV) (σ:Hp),(∃ v' w':SV,[v,w] = [v',w']∧on v'.asInt fun i=>on w'.asInt fun j=>Q (.int (if j > i then j else i)) σ) = (on v.asInt fun i=>on w.asInt fun j=>Q (.int (if j > i then j else i)) σ):=fun v w σ =>
      propext ⟨fun ⟨v',w',e,z⟩=>by cases e; exact z,fun z=>⟨v,w,rfl,z⟩⟩
    show wpE Γ e₁ ρ (fun v σ=>wpE Γ e₂ ρ (fun w σ=>∃ v' w',[v,w] = [v',w']∧_) σ) σ
    simp only [e2]
    exact h
  · obtain ⟨v,w,rfl,i,e1,j,e2,q⟩:=k
    obtain rfl:=asInt_some e1
    obtain rfl:=asInt_some e2
    obtain ⟨_,_,rfl,⟨t,rfl⟩,V1⟩:=V.cons_of
    obtain ⟨_,_,rfl,⟨t',rfl⟩,V2⟩:=V1.cons_of
    obtain rfl:=V2.nil_of
    exact max_two_N a'.ok.hh a'.F a'.N fun h'' tk' F' N'=>⟨h'',tk',news',_,σ',rfl,F',N',a'.R,P,VR.int _ _,q⟩
theorem bcall1 (KF:W.Fns) {e:Mine.E} {x:Str} {id:String} {p:PySem.Expr} {ps' pos:Pos} (hbn:nsIn W.K mainGlobals x = some none) (hb:bootBuiltins x = some (.builtin id)) (hn:x ≠ "__name__") (hg:globOk ns x = true) (h1:notStar p = true)
    (i₁:SndE W Γ c n m priv ρ ns sl e p) {Q₁:SV→Hp→Prop} {Q:Value→Shared→Prop} (a:At W c n m priv news s σ ρ ns sl) (h:wpE Γ e ρ Q₁ σ)
    (k:∀ h' tk news' sv σ' v,At W c n m priv news' { s with heap:=h',toks:=tk } σ' ρ ns sl→Per news news'→VR news' sv v→Q₁ sv σ'→wpAny W.M c.A (call (.builtin id) [v]) Q X { s with heap:=h',toks:=tk }) :
    wpAny W.M c.A (eval (.Call (.Name x ps') [p] [] pos) c.env) Q X s:=by
  refine bcall KF (es:=.cons e .nil) (Q₁:=fun vs σ=>∃ v,vs = [v]∧Q₁ v σ) hbn hb hn hg (by simp [h1]) (by simp) (snds_cons h1 i₁ snds_nil) a ?_ fun h' tk news' svs σ' vs a' P V z=>?_
  · show wpE Γ e ρ (fun v σ=>∃ v',[v] = [v']∧Q₁ v' σ) σ
    have e2:∀ v σ,(∃ v',[v] = [v']∧Q₁ v' σ) = Q₁ v σ:=fun v σ=>propext ⟨fun ⟨v',e,z⟩=>by cases e; exact z,fun z=>⟨v,rfl,z⟩⟩
    simp only [e2]
    exact h
  · obtain ⟨v,rfl,q⟩:=z
    obtain ⟨_,_,rfl,V1,V2⟩:=V.cons_of
    obtain rfl:=V2.nil_of
    exact k h' tk news' v σ' _ a' P V1 q
theorem snd_abs (KF:W.Fns) (hbn:nsIn W.K mainGlobals ("abs":Str) = some none) {e:Mine.E} {x:Str} {p:PySem.Expr} {ps' pos:Pos} (hx:(x == ("abs":Str)) = true) (hg:globOk ns x = true) (h1:notStar p = true) (i₁:SndE W Γ c n m priv ρ ns sl e p) :
    SndE W Γ c n m priv ρ ns sl (.abs e) (.Call (.Name x ps') [p] [] pos):=fun Q σ s news X h a=>by
  obtain rfl:=beq_iff_eq.mp hx
  refine bcall1 KF hbn (by boot_fast) (by decide) hg h1 i₁ a h fun h' tk news' sv σ' v a' P V z=>?_
  obtain ⟨i,e1,q⟩:=z
  obtain rfl:=asInt_some e1
  obtain ⟨t,rfl⟩:=V
  exact call_abs_int fun u tk'=>PE.now a'.F a'.N a'.R P (VR.int _ _) q
theorem listAt_some {σ:Hp} {v:SV} {vs:List SV} (h:listAt σ v = some vs):∃ l,v = .ref l∧σ l = some (.list vs):=by
  obtain ⟨l,e1,h⟩:=Option.bind_eq_some_iff.mp h
  obtain ⟨o,e2,h⟩:=Option.bind_eq_some_iff.mp h
  refine ⟨l,asRef_some e1,?_⟩
  cases o <;> cases h
  exact e2
theorem dictAt_some {σ:Hp} {v:SV} {vs:List (Int × SV)} (h:dictAt σ v = some vs):∃ l,v = .ref l∧σ l = some (.dict vs):=by
  obtain ⟨l,e1,h⟩:=Option.bind_eq_some_iff.mp h
  obtain ⟨o,e2,h⟩:=Option.bind_eq_some_iff.mp h
  refine ⟨l,asRef_some e1,?_⟩
  cases o <;> cases h
  exact e2
theorem At.list (a:At W c n m priv news s σ ρ ns sl) {l:Nat} {vs:List SV} (e:σ l = some (.list vs)) :
    ∃ its k,(l,listOf its k) ∈ news∧VRs news vs its.toList∧s.heap.IsList l its:=by
  obtain ⟨its,k,h1,h2⟩:=(a.R.ob l _ e).2
  exact ⟨its,k,h1,h2,⟨_,(a.N _ h1).1,rfl,k,rfl⟩⟩
theorem VRs.size {vs:List SV} {its:Array Value} (h:VRs news vs its.toList):its.size = vs.length:=by rw [h.len,Array.length_toList]
theorem snd_len (KF:W.Fns) {e:Mine.E} {x:Str} {p:PySem.Expr} {ps' pos:Pos} (hx:(x == ("len":Str)) = true) (hg:globOk ns x = true) (h1:notStar p = true) (i₁:SndE W Γ c n m priv ρ ns sl e p) :
    SndE W Γ c n m priv ρ ns sl (.len e) (.Call (.Name x ps') [p] [] pos):=fun Q σ s news X h a=>by
  obtain rfl:=beq_iff_eq.mp hx
  refine bcall1 KF (KF.bi _ (by simp)) (by boot_by_name) (by decide) hg h1 i₁ a h fun h' tk news' sv σ' v a' P V z=>?_
  obtain ⟨vs,e1,hz,q⟩:=z
  obtain ⟨l,rfl,e2⟩:=listAt_some e1
  cases V
  obtain ⟨its,k,i1,i2,i3⟩:=a'.list e2
  have hs:=i2.size
  refine len_list i3 (by rw [hs]; omega) ?_
  rw [hs]
  exact PE.now a'.F a'.N a'.R P (VR.int _ _) q
theorem At.newL (a:At W c n m priv news s σ ρ ns sl) {vs:List SV} {its:Array Value} {Q:SV→Hp→Prop} {news₀:News1} {s₀:Shared} {l k:Nat} {h':Heap} {tk:Nat} (hv:VRs news vs its.toList) (F:Fr c.h₀ c.L h' m) (N:News c.h₀ c.L h' ((l,listOf its k) :: news)) (hf:∀ p ∈ news,p.1 < l)
    (P:Per news₀ news) (q:newO (.list vs) Q σ):PE W c m priv s₀ news₀ Q (.ref l) { s₀ with heap:=h',toks:=tk } :=
  PE.now F N (a.R.allocList hf hv) (P.trans Per.cons) (VR.ref l) (q l (a.R.free hf))
theorem snd_list {es:Mine.Es} {ps:List PySem.Expr} {pos:Pos} (ih:SndEs W Γ c n m priv ρ ns sl es ps) :
    SndE W Γ c n m priv ρ ns sl (.list es) (.List ps pos):=fun Q σ s news X h a=>by
  refine List_ (ih.then a h fun h' tk news' svs σ' vs a' P V q=>?_)
  refine newList_K a'.F a'.N (fun l h'' F' N' hf=>?_) (by have:=V.len; have:=q.1; rw [sizeLine_eq]; omega)
  exact a'.newL (its:=vs.toArray) V F' N' hf P q.2
end
end Mine
end
section
open PySem PySem.W PyProof.Rows PySem.Calls
namespace Mine
set_option linter.unusedVariables false
section
variable {W:Wld} {c:Cfg} {n:Nat} {m:Str→Option Value} {priv news:News1} {s:Shared} {X:Value→Shared→Prop} {σ:Hp} {ρ:Lc} {ns:Nms} {sl:Sls} {Γ:Cal}
theorem snd_tri {e₁ e₂ e₃:Mine.E} {p q r:PySem.Expr} {k:Nat} {pos:Pos} (h1:notStar p = true) (h2:notStar q = true) (h3:notStar r = true)
    (i₁:SndE W Γ c n m priv ρ ns sl e₁ p) (i₂:SndE W Γ c n m priv ρ ns sl e₂ q) (i₃:SndE W Γ c n m priv ρ ns sl e₃ r):SndE W Γ c n m priv ρ ns sl (.tri e₁ e₂ e₃) (.Tuple [p,q,r] k pos):=fun Q σ s news X h a=>by
  refine Tuple_ ?_
  refine spliced_more (i₁.then a h fun h₁ t₁ n₁ sv₁ σ₁ v₁ a₁ P₁ V₁ q₁=>?_) (star_cons h1)
  refine spliced_more (i₂.then a₁ q₁ fun h₂ t₂ n₂ sv₂ σ₂ v₂ a₂ P₂ V₂ q₂=>?_) (star_cons h2)
  refine spliced_more (i₃.then a₂ q₂ fun h₃ t₃ n₃ sv₃ σ₃ v₃ a₃ P₃ V₃ q₃=>?_) (star_cons h3)
  refine spliced_none ?_
  obtain ⟨i,e1,j,e2,l,e3,z⟩:=q₃
  obtain rfl:=asInt_some e1
  obtain rfl:=asInt_some e2
  obtain rfl:=asInt_some e3
  obtain ⟨u₁,rfl⟩:=V₁
  obtain ⟨u₂,rfl⟩:=V₂
  obtain ⟨u₃,rfl⟩:=V₃
  refine newTuple_N a₃.F a₃.N (fun h' F' N'=>?_) (by rw [sizeLine_eq]; simp)
  exact PE.now F' N' (a₃.R.push (fun p hp=>Heap.lt_size (a₃.N p hp).1) tupO_inst) (((P₁.trans P₂).trans P₃).trans Per.cons) (sv:=.tri i j l) ⟨_,u₁,u₂,u₃,rfl,.head _⟩ z
theorem snd_emptyDict {pos:Pos}:SndE W Γ c n m priv ρ ns sl .emptyDict (.Dict [] [] pos):=fun Q σ s news X h a=>by
  refine newDict_K a.F a.N a.ok.T.nolimit fun d h' o F' N' hf lo _ _ hd _=>?_
  have hdo:notInst o:=fun C d' e=>by subst e; obtain ⟨_,_,hx,_⟩:=hd; cases hx.1
  exact PE.now F' N' (a.R.alloc (so:=.dict []) hf hdo ⟨o,[],.head _,hd,trivial,lo⟩) Per.cons (VR.ref d) (h d (a.R.free hf))
theorem VRs.get:∀ {as:List SV} {vs:List Value} {i:Nat} {x:SV},VRs news as vs→as[i]? = some x→∃ v,vs[i]? = some v∧VR news x v
  | [],_,_,_,_,e=>noneSome (by rw [List.getElem?_nil] at e; exact e)
  | _ :: _,[],_,_,h,_=>h.elim
  | a :: as,v :: vs,0,x,⟨h,_⟩,e=>⟨v,rfl,by cases e; exact h⟩
  | a :: as,v :: vs,i + 1,x,⟨_,h⟩,e=>by
    obtain ⟨u,h1,h2⟩:=VRs.get (i:=i) h (by simpa using e)
    exact ⟨u,by simpa using h1,h2⟩
theorem VRs.set {x:SV} {v:Value} (e:VR news x v):∀ {as:List SV} {vs:List Value} (i:Nat),VRs news as vs→VRs news (as.set i x) (vs.set i v)
  | [],_ :: _,_,h=>h.elim
  | _ :: _,[],_,h=>h.elim
  | [],[],_,_=>trivial
  | _ :: _,_ :: _,0,h=>⟨e,h.2⟩
  | _ :: _,_ :: _,i + 1,h=>⟨h.1,VRs.set e i h.2⟩
theorem VRs.append:∀ {as bs:List SV} {vs us:List Value},VRs news as vs→VRs news bs us→VRs news (as ++ bs) (vs ++ us)
  | [],_,_ :: _,_,h,_=>h.elim
  | _ :: _,_,[],_,h,_=>h.elim
  | [],_,[],_,_,h=>h
  | _ :: _,_,_ :: _,_,⟨h0,h⟩,h'=>⟨h0,VRs.append h h'⟩
theorem VRs.take:∀ {as:List SV} {vs:List Value} (i:Nat),VRs news as vs→VRs news (as.take i) (vs.take i)
  | [],_ :: _,_,h=>h.elim
  | _ :: _,[],_,h=>h.elim
  | [],[],_,_=>by simp [VRs]
  | _ :: _,_ :: _,0,_=>trivial
  | _ :: _,_ :: _,i + 1,⟨h0,h⟩=>⟨h0,VRs.take i h⟩
theorem VRs.drop:∀ {as:List SV} {vs:List Value} (i:Nat),VRs news as vs→VRs news (as.drop i) (vs.drop i)
  | [],_ :: _,_,h=>h.elim
  | _ :: _,[],_,h=>h.elim
  | [],[],_,_=>by simp [VRs]
  | _ :: _,_ :: _,0,h=>h
  | _ :: _,_ :: _,i + 1,⟨_,h⟩=>VRs.drop i h
theorem VRs.rev:∀ {as:List SV} {vs:List Value},VRs news as vs→VRs news as.reverse vs.reverse
  | [],_ :: _,h=>h.elim
  | _ :: _,[],h=>h.elim
  | [],[],_=>trivial
  | _ :: _,_ :: _,⟨h0,h⟩=>by
    rw [List.reverse_cons,List.reverse_cons]
    exact VRs.append (VRs.rev h) ⟨h0,trivial⟩
theorem VRs.snoc:∀ {as:List SV} {x:SV} {vs:List Value},VRs news (as ++ [x]) vs→∃ us v,vs = us ++ [v]∧VRs news as us∧VR news x v
  | [],_,[],h=>h.elim
  | _ :: _,_,[],h=>h.elim
  | [],x,[v],⟨h,_⟩=>⟨[],v,rfl,trivial,h⟩
  | [],x,_ :: _ :: _,⟨_,h⟩=>h.elim
  | a :: as,x,v :: vs,⟨h0,h⟩=>by
    obtain ⟨us,u,e,h1,h2⟩:=VRs.snoc h
    exact ⟨v :: us,u,by rw [e]; rfl,⟨h0,h1⟩,h2⟩
theorem DR.get:∀ {as:List (Int × SV)} {vs:List (Int × Value)} {i:Int} {x:SV},DR news as vs→dget as i = some x→∃ v,valueAt vs i = some v∧VR news x v
  | [],(_,_) :: _,_,_,h,_=>h.elim
  | (_,_) :: _,[],_,_,h,_=>h.elim
  | [],[],_,_,_,e=>by cases e
  | (k,a) :: as,(k',v) :: vs,i,x,⟨hk,h0,h⟩,e=>by
    subst hk
    unfold dget at e
    unfold valueAt
    rw [List.find?_cons] at e ⊢
    by_cases hi:k = i
    · subst hi
      simp only [beq_self_eq_true,decide_true] at e ⊢
      cases e
      exact ⟨v,rfl,h0⟩
    · have h1:(k == i) = false:=beq_false_of_ne hi
      simp only [h1,decide_eq_false hi] at e ⊢
      exact DR.get h e
theorem DR.none:∀ {as:List (Int × SV)} {vs:List (Int × Value)} {i:Int},DR news as vs→dget as i = none→valueAt vs i = none
  | [],(_,_) :: _,_,h,_=>h.elim
  | (_,_) :: _,[],_,h,_=>h.elim
  | [],[],_,_,_=>rfl
  | (k,a) :: as,(k',v) :: vs,i,⟨hk,h0,h⟩,e=>by
    subst hk
    unfold dget at e
    unfold valueAt
    rw [List.find?_cons] at e ⊢
    by_cases hi:k = i
    · subst hi
      simp only [beq_self_eq_true,Option.map_some] at e
      cases e
    · have h1:(k == i) = false:=beq_false_of_ne hi
      simp only [h1,decide_eq_false hi] at e ⊢
      exact DR.none h e
theorem DR.len:∀ {as:List (Int × SV)} {vs:List (Int × Value)},DR news as vs→as.length = vs.length
  | [],(_,_) :: _,h=>h.elim
  | (_,_) :: _,[],h=>h.elim
  | [],[],_=>rfl
  | _ :: _,_ :: _,⟨_,_,h⟩=>by rw [List.length_cons,List.length_cons,DR.len h]
theorem DR.any:∀ {as:List (Int × SV)} {vs:List (Int × Value)} {i:Int},DR news as vs→as.any (fun p=>p.1 == i) = vs.any (fun p=>decide (p.1 = i))
  | [],(_,_) :: _,_,h=>h.elim
  | (_,_) :: _,[],_,h=>h.elim
  | [],[],_,_=>rfl
  | (k,_) :: _,(k',_) :: _,i,⟨hk,_,h⟩=>by subst hk; rw [List.any_cons,List.any_cons,DR.any h]; rfl
theorem DR.map {i:Int} {x:SV} {v:Value} (hv:VR news x v):∀ {as:List (Int × SV)} {vs:List (Int × Value)},DR news as vs →
    DR news (as.map fun p=>if p.1 == i then (i,x) else p) (vs.map fun p=>if p.1 = i then (p.1,v) else p)
  | [],(_,_) :: _,h=>h.elim
  | (_,_) :: _,[],h=>h.elim
  | [],[],_=>trivial
  | p :: as,q :: vs,h=>by
    obtain ⟨k,a⟩:=p
    obtain ⟨k',u⟩:=q
    obtain ⟨hk,h0,h⟩:=h
    subst hk
    rw [List.map_cons,List.map_cons]
    by_cases hi:k = i
    · subst hi
      simp only [beq_self_eq_true,if_true]
      exact ⟨rfl,hv,DR.map hv h⟩
    · have h1:(k == i) = false:=beq_false_of_ne hi
      simp only [h1,if_neg hi,Bool.false_eq_true,if_false]
      exact ⟨rfl,h0,DR.map hv h⟩
theorem DR.append:∀ {as bs:List (Int × SV)} {vs us:List (Int × Value)},DR news as vs→DR news bs us→DR news (as ++ bs) (vs ++ us)
  | [],_,(_,_) :: _,_,h,_=>h.elim
  | (_,_) :: _,_,[],_,h,_=>h.elim
  | [],_,[],_,_,h=>h
  | _ :: _,_,_ :: _,_,⟨hk,h0,h⟩,h'=>⟨hk,h0,DR.append h h'⟩
theorem DR.put {as:List (Int × SV)} {vs:List (Int × Value)} {i:Int} {x:SV} {v:Value} (h:DR news as vs) (hv:VR news x v):DR news (dput as i x) (stored vs i v):=by
  unfold dput stored
  rw [← h.any (i:=i)]
  split
  · exact DR.map hv h
  · exact h.append ⟨rfl,hv,trivial⟩
theorem DR.del:∀ {as:List (Int × SV)} {vs:List (Int × Value)} {i:Int},DR news as vs→DR news (ddel as i) (without vs i)
  | [],(_,_) :: _,_,h=>h.elim
  | (_,_) :: _,[],_,h=>h.elim
  | [],[],_,_=>trivial
  | (k,a) :: as,(k',u) :: vs,i,⟨hk,h0,h⟩=>by
    subst hk
    have ih:=DR.del (i:=i) h
    unfold ddel without at ih ⊢
    rw [List.filter_cons,List.filter_cons]
    by_cases hi:k = i
    · subst hi
      simp only [beq_self_eq_true,Bool.not_true,Bool.false_eq_true,if_false,ne_eq,not_true,decide_false]
      exact ih
    · have h1:(k == i) = false:=beq_false_of_ne hi
      simp only [h1,Bool.not_false,if_true,ne_eq,hi,not_false_eq_true,decide_true]
      exact ⟨rfl,h0,ih⟩
theorem sub_ok {sl:PySem.Expr} {o i:Value} (h:notSlice sl = true):subscripted sl false o i = operate [o,i] (getItem o i):=by
  cases sl <;> first | rfl | cases h
theorem At.dict (a:At W c n m priv news s σ ρ ns sl) {l:Nat} {vs:List (Int × SV)} (e:σ l = some (.dict vs)) :
    ∃ o kvs,(l,o) ∈ news∧Obj.IsDictOf (PySem.intKind W.prog W.w) o kvs∧DR news vs kvs∧(l == sysModules) = false:=(a.R.ob l _ e).2
theorem snd_idx {e₁ e₂:Mine.E} {p q:PySem.Expr} {pos:Pos} (hs:notSlice q = true) (i₁:SndE W Γ c n m priv ρ ns sl e₁ p) (i₂:SndE W Γ c n m priv ρ ns sl e₂ q):SndE W Γ c n m priv ρ ns sl (.idx e₁ e₂) (.Subscript p q pos):=fun Q σ s news X h a=>by
  refine Subscript_ (i₁.then a h fun h' tk news' sv σ' v a' P V k=>i₂.then a' k fun h'' tk' news'' sw σ'' u a'' P' V' k'=>?_)
  obtain ⟨x,e,z⟩:=k'
  obtain ⟨l,e1,e⟩:=Option.bind_eq_some_iff.mp e
  obtain ⟨i,e2,e⟩:=Option.bind_eq_some_iff.mp e
  obtain ⟨o,e3,e⟩:=Option.bind_eq_some_iff.mp e
  obtain rfl:=asRef_some e1
  obtain rfl:=asInt_some e2
  cases V
  obtain ⟨t,rfl⟩:=V'
  cases o with
  | list vs =>
    dsimp only at e
    split at e
    · rename_i h0
      obtain ⟨its,k,i1,i2,i3⟩:=a''.list e3
      obtain ⟨y,g1,g2⟩:=i2.get e
      have hsz:=i2.size
      have hlt:i.toNat < vs.length:=(List.getElem?_eq_some_iff.mp e).1
      have hb:i < 2 ^ 63:=Int.lt_trans h0.2 (by decide)
      exact tail_any i3.typeIs slot_list_getitem.lookup (wpAny_getItem_list i3 h0.1 hb (by rw [← Array.getElem?_toList]; exact g1) (PE.now a''.F a''.N a''.R (P.trans P') g2 z)) (sub_ok hs)
    · cases e
  | dict kvs =>
    obtain ⟨oo,kvs',i1,i2,i3,i4⟩:=a''.dict e3
    obtain ⟨y,g1,g2⟩:=i3.get e
    have hD:=kda_dict a''.N i1 i2
    exact tail_any hD.typeIs slot_dict_getitem.lookup (wpAny_getItem_of (intKind_is _ _ _ _) hD.mapOf g1 (PE.now a''.F a''.N a''.R (P.trans P') g2 z)) (sub_ok hs)
  | node _=>cases e
  | tree _=>cases e
end
end Mine
end
section
open PySem PySem.W PyProof.Rows PySem.Calls
namespace Mine
set_option linter.unusedVariables false
section
variable {W:Wld} {c:Cfg} {n:Nat} {m:Str→Option Value} {priv news:News1} {s:Shared} {X:Value→Shared→Prop} {σ:Hp} {ρ:Lc} {ns:Nms} {sl:Sls} {Γ:Cal}
theorem meth_eq {o:PySem.Expr} {name:Str} {ap pos:Pos} {args:List PySem.Expr} {env:Env} (hc:notCall o = true) (hl:(ap.endLine == pos.line) = true) (hs:args.all notStar = true) (hn:args.length < 30) :
    eval (.Call (.Attribute o name ap) args [] pos) env = (do
      let ov ← eval o env
      standAt ap.atName
      let (f,first) ← holding [ov] (getMethod ov name (do return (← importBound o env).getD true))
      callWith pos f first (backTo pos (starEach args env)) []):=by
  have hany:(backTo pos (starEach args env)).all (fun x=>!x.1) = true:=by
    have h:=star_none (env:=env) (pos:=pos) hs
    rw [List.any_eq_false] at h
    rw [List.all_eq_true]
    intro x hx
    have:=h x hx
    simpa using this
  have hf:methodCallForm (args.length + ([]:List Keyword).length) (backTo pos (starEach args env)) (backToKw pos (keywordEach [] env)) = true:=by
    unfold methodCallForm
    rw [hany]
    simp only [Bool.true_and]
    show (true && decide (args.length + 0 + 0 < 30)) = true
    rw [decide_eq_true (by omega)]
    rfl
  show (do
    let ov ← attributeBase o name env (eval o env)
    standAt ap.atName
    methodCall o name ap pos env ov (args.length + ([]:List Keyword).length) (backTo pos (starEach args env)) (backToKw pos (keywordEach [] env))) = _
  rw [attrBase hc]
  unfold methodCall
  rw [hf]
  unfold methodCallPos
  simp only [hl,Bool.not_true,Bool.false_or,if_true]
  rfl
theorem At.inTail (a:At W c n m priv news s σ ρ ns sl) {l:Nat} {vs vs':List SV} {its its':Array Value} {k k':Nat} {Q:SV→Hp→Prop} {news₀:News1} {s₀:Shared} {h':Heap} {tk:Nat} {sv:SV} {v:Value}
    (e:σ l = some (.list vs)) (hm:(l,listOf its k) ∈ news) (hv:VRs news vs' its'.toList) (F:Fr c.h₀ c.L h' m) (N:News c.h₀ c.L h' (updL news l (listOf its' k')))
    (P:Per news₀ news) (V:VR news sv v) (q:Q sv (upd σ l (.list vs'))):PE W c m priv s₀ news₀ Q v { s₀ with heap:=h',toks:=tk }:=by
  obtain ⟨R',P'⟩:=a.R.setList (n':=k') e hm hv
  exact PE.now F N R' (P.trans P') (V.mono P') q
theorem snd_append {e₁ e₂:Mine.E} {o p:PySem.Expr} {x:Str} {ap pos:Pos} (hx:(x == ("append":Str)) = true) (hc:notCall o = true) (hl:(ap.endLine == pos.line) = true) (hs:notStar p = true)
    (i₁:SndE W Γ c n m priv ρ ns sl e₁ o) (i₂:SndE W Γ c n m priv ρ ns sl e₂ p):SndE W Γ c n m priv ρ ns sl (.append e₁ e₂) (.Call (.Attribute o x ap) [p] [] pos):=fun Q σ s news X h a=>by
  obtain rfl:=beq_iff_eq.mp hx
  refine MethodCall_ ?_ (meth_eq hc hl (by simp [hs]) (by simp))
  refine i₁.then a h fun h' tk news' sv σ' v a' P V k=>?_
  obtain ⟨vs₀,e0⟩:=Option.isSome_iff_exists.mp k.1
  obtain ⟨l,rfl,f0⟩:=listAt_some e0
  cases V
  obtain ⟨its,kk,m1,m2,m3⟩:=a'.list f0
  refine kl_method a'.N m1 slot_list_append type_list_append ?_
  refine callWith_method1 (spliced_more (i₂.then a' k.2 fun h'' tk' news'' sw σ'' u a'' P' V' q=>spliced_none ?_) (star_cons hs)) (star_cons hs) rfl
  obtain ⟨l',e1,vs,e2,hz,q⟩:=q
  cases e1
  obtain ⟨l',e1,f2⟩:=listAt_some e2
  cases e1
  obtain ⟨its',k',i1,i2,i3⟩:=a''.list f2
  refine append_K a''.F a''.N (upd_of a''.R.nd i1) (fun h3 F3 N3=>?_) (by rw [i2.size,sizeLine_eq]; omega)
  refine a''.inTail f2 i1 (its':=its'.push u) ?_ F3 N3 (P.trans P') VR.none q
  rw [Array.toList_push]
  exact VRs.append i2 ⟨V',trivial⟩
theorem kl_last_snoc (y:Value):∀ p:List Value,kl_last (p ++ [y]) = some (p,y):=kpa_last y
theorem snd_pop {e₁:Mine.E} {o:PySem.Expr} {x:Str} {ap pos:Pos} (hx:(x == ("pop":Str)) = true) (hc:notCall o = true) (hl:(ap.endLine == pos.line) = true)
    (i₁:SndE W Γ c n m priv ρ ns sl e₁ o):SndE W Γ c n m priv ρ ns sl (.pop e₁) (.Call (.Attribute o x ap) [] [] pos):=fun Q σ s news X h a=>by
  obtain rfl:=beq_iff_eq.mp hx
  refine MethodCall_ ?_ (meth_eq hc hl (by simp) (by simp))
  refine i₁.then a h fun h' tk news' sv σ' v a' P V k=>?_
  obtain ⟨l,e1,vs,e2,hz,r,y,rfl,q⟩:=k
  obtain ⟨l',rfl,f2⟩:=listAt_some e2
  cases e1
  cases V
  obtain ⟨its,kk,m1,m2,m3⟩:=a'.list f2
  refine kl_method a'.N m1 PySem.F.slot_list_pop PySem.F.type_list_pop (callWith_method0 ?_)
  obtain ⟨us,u,e3,h1,h2⟩:=m2.snoc
  have hlen:=m2.len
  refine kl_pop a'.F a'.N (p:=us) (y:=u) (by rw [e3]; exact kl_last_snoc u us) (upd_of a'.R.nd m1) (by rw [← hlen,sizeLine_eq]; omega) fun h3 F3 N3=>?_
  exact a'.inTail f2 m1 (its':=us.toArray) h1 F3 N3 P h2 q
theorem snd_get {e₁ e₂ e₃:Mine.E} {o p r:PySem.Expr} {x:Str} {ap pos:Pos} (hx:(x == ("get":Str)) = true) (hc:notCall o = true) (hl:(ap.endLine == pos.line) = true) (hs:notStar p = true) (hs':notStar r = true)
    (i₁:SndE W Γ c n m priv ρ ns sl e₁ o) (i₂:SndE W Γ c n m priv ρ ns sl e₂ p) (i₃:SndE W Γ c n m priv ρ ns sl e₃ r):SndE W Γ c n m priv ρ ns sl (.get e₁ e₂ e₃) (.Call (.Attribute o x ap) [p,r] [] pos):=fun Q σ s news X h a=>by
  obtain rfl:=beq_iff_eq.mp hx
  refine MethodCall_ ?_ (meth_eq hc hl (by simp [hs,hs']) (by simp))
  refine i₁.then a h fun h' tk news' sv σ' v a' P V k=>?_
  obtain ⟨vs₀,e0⟩:=Option.isSome_iff_exists.mp k.1
  obtain ⟨l,rfl,f0⟩:=dictAt_some e0
  cases V
  obtain ⟨oo,kvs,m1,m2,m3,m4⟩:=a'.dict f0
  refine kdg_method a'.N m1 m2 ?_
  refine callWith_method1 (spliced_more (i₂.then a' k.2 fun h₂ t₂ n₂ sw σ₂ u a₂ P₂ V₂ q₂=>spliced_more (i₃.then a₂ q₂ fun h₃ t₃ n₃ sx σ₃ y a₃ P₃ V₃ q₃=>spliced_none ?_) (star_cons hs')) (star_cons hs)) (star_cons hs) (by rw [star_none (by simp [hs'])])
  obtain ⟨kvs',e1,i,e2,q⟩:=q₃
  obtain ⟨l',e3,e1⟩:=dictAt_some e1
  cases e3
  obtain rfl:=asInt_some e2
  obtain ⟨t,rfl⟩:=V₂
  obtain ⟨oo',kvs₃,j1,j2,j3,j4⟩:=a₃.dict e1
  refine kdg_get2 a₃.N j1 j2 j4 (intKind_is _ _ i t) (valueAt kvs₃ i) rfl ?_
  have PP:=(P.trans P₂).trans P₃
  cases eg:dget kvs' i with
  | none =>
    rw [j3.none eg]
    rw [eg] at q
    exact PE.now a₃.F a₃.N a₃.R PP V₃ q
  | some z =>
    obtain ⟨z',h1,h2⟩:=j3.get eg
    rw [h1]
    rw [eg] at q
    exact PE.now a₃.F a₃.N a₃.R PP h2 q
theorem slice_step {vs ws:List SV} {its:Array Value} {l:Nat} {k:Nat} {vl vu vk:Value} {lo hi st:Option Int} {value slice:PySem.Expr} {ops:List Value} {Q:SV→Hp→Prop} (a:At W c n m priv news s σ ρ ns sl)
    (e:σ l = some (.list vs)) (hm:(l,listOf its k) ∈ news) (hl:s.heap.IsList l its) (hz:vs.length < 2 ^ 20) (hv:VRs news vs its.toList) (pl:IsPart vl lo) (pu:IsPart vu hi) (pk:IsPart vk st) (h0:st ≠ some 0)
    (hw:VRs news ws (slicePick its lo hi st).toList) (q:newO (.list ws) Q σ)
    (hs:subscripted slice false (.ref l) (.ref s.heap.objs.size) = operate ops (getItem (.ref l) (.ref s.heap.objs.size))) :
    wpAny W.M c.A (subscriptTail value slice (.ref l) (.ref s.heap.objs.size)) (PE W c m priv s news Q) X { s with heap:=s.heap.push { cls:=.type "slice",data:=.fields #[vl,vu,vk] } }:=by
  have hsz:=hv.size
  refine tail_any (s:={ s with heap:=s.heap.push { cls:=.type "slice",data:=.fields #[vl,vu,vk] } }) (hl.push _).typeIs slot_list_getitem.lookup ?_ hs
  refine wpAny_getItem_list_slice (hl.push _) (Heap.IsSliceOf.new ..) pl pu pk h0 ?_ (by rw [hsz,sizeLine_eq]; omega)
  have F1:=a.F.push { cls:=.type "slice",data:=.fields #[vl,vu,vk] }
  have N1:=News.push F1 (a.N.grown fun _ _ e=>Heap.get?_push_of_some _ e) { cls:=.type "list",data:=.seq (slicePick its lo hi st) }
  have hf:∀ p ∈ news,p.1 < (s.heap.push { cls:=.type "slice",data:=.fields #[vl,vu,vk] }).objs.size:=fun p hp=>by
    rw [Heap.size_push]; exact Nat.lt_succ_of_lt (Heap.lt_size (a.N p hp).1)
  exact PE.now (F1.push _) N1 (a.R.allocList (n:=0) hf hw) Per.cons (VR.ref _) (q _ (a.R.free hf))
theorem snd_rev {e:Mine.E} {p:PySem.Expr} {k:Nat} {q₁ q₂ q₃ pos:Pos} (ih:SndE W Γ c n m priv ρ ns sl e p):SndE W Γ c n m priv ρ ns sl (.rev e) (.Subscript p (.Slice none none (some (.UnaryOp .USub (.Constant (.int 1) k q₁) q₂)) q₃) pos):=fun Q σ s news X h a=>by
  refine Subscript_ (ih.then a h fun h' tk news' sv σ' v a' P V z=>?_)
  obtain ⟨vs,e1,hz,q⟩:=z
  obtain ⟨l,rfl,f1⟩:=listAt_some e1
  cases V
  obtain ⟨its,kk,m1,m2,m3⟩:=a'.list f1
  refine wpAny_Slice (evalPart_none_step (evalPart_none_step (evalPart_some_step (UnaryOp_ ?_))))
  show wpAny _ _ (mkInt 1) _ _ _
  unfold mkInt
  refine wpAny_bind (wpAny_fresh (wpAny_pure (neg_int ?_)))
  have a'':=a'.next (tk:=tk + 1 + 1) a'.F a'.N a'.R Per.refl
  refine wpAny_mono (slice_step (ws:=vs.reverse) (lo:=none) (hi:=none) (st:=some (-1)) a'' f1 m1 m3 hz m2 .none .none (.int _ _) (by decide) ?_ q rfl) (fun _ _ z=>z.trans P) fun _ _ x=>x
  rw [krv_pick]
  exact m2.rev
theorem pick_upto (its:Array Value) (i:Nat):(slicePick its none (some (i:Int)) none).toList = its.toList.take i:=by
  rw [kms_pick_eq]
  unfold kms_pick kms_lo kms_hi
  have hn:¬ ((i:Int) < 0):=by omega
  simp only [if_neg hn,Nat.sub_zero,List.drop_zero,Int.toNat_natCast]
  rw [← List.take_take,List.take_length]
theorem pick_from (its:Array Value) (i:Nat):(slicePick its (some (i:Int)) none none).toList = its.toList.drop i:=by
  rw [kms_pick_eq]
  unfold kms_pick kms_lo kms_hi
  have hn:¬ ((i:Int) < 0):=by omega
  simp only [if_neg hn,Int.toNat_natCast]
  by_cases h:i ≤ its.toList.length
  · rw [Nat.min_eq_left h]
    rw [List.take_of_length_le (by rw [List.length_drop]; exact Nat.le_refl _)]
  · rw [Nat.min_eq_right (by omega),List.drop_length,List.drop_of_length_le (by omega)]
    simp
theorem snd_upto {e:Mine.E} {p:PySem.Expr} {i:Int} {j k:Nat} {q₁ q₂ pos:Pos} (hi:(i == (j:Int)) = true) (ih:SndE W Γ c n m priv ρ ns sl e p):SndE W Γ c n m priv ρ ns sl (.upto e j) (.Subscript p (.Slice none (some (.Constant (.int i) k q₁)) none q₂) pos):=fun Q σ s news X h a=>by
  obtain rfl:=beq_iff_eq.mp hi
  refine Subscript_ (ih.then a h fun h' tk news' sv σ' v a' P V z=>?_)
  obtain ⟨vs,e1,hz,q⟩:=z
  obtain ⟨l,rfl,f1⟩:=listAt_some e1
  cases V
  obtain ⟨its,kk,m1,m2,m3⟩:=a'.list f1
  refine wpAny_Slice (evalPart_none_step (evalPart_some_step ?_))
  show wpAny _ _ (mkInt _) _ _ _
  unfold mkInt
  refine wpAny_bind (wpAny_fresh (wpAny_pure (evalPart_none_step ?_)))
  have a'':=a'.next (tk:=tk + 1) a'.F a'.N a'.R Per.refl
  refine wpAny_mono (slice_step (ws:=vs.take j) (lo:=none) (hi:=some (j:Int)) (st:=none) a'' f1 m1 m3 hz m2 .none (.int _ _) .none (by decide) ?_ q rfl) (fun _ _ z=>z.trans P) fun _ _ x=>x
  rw [pick_upto]
  exact m2.take j
theorem snd_from {e:Mine.E} {p:PySem.Expr} {i:Int} {j k:Nat} {q₁ q₂ pos:Pos} (hi:(i == (j:Int)) = true) (ih:SndE W Γ c n m priv ρ ns sl e p):SndE W Γ c n m priv ρ ns sl (.from_ e j) (.Subscript p (.Slice (some (.Constant (.int i) k q₁)) none none q₂) pos):=fun Q σ s news X h a=>by
  obtain rfl:=beq_iff_eq.mp hi
  refine Subscript_ (ih.then a h fun h' tk news' sv σ' v a' P V z=>?_)
  obtain ⟨vs,e1,hz,q⟩:=z
  obtain ⟨l,rfl,f1⟩:=listAt_some e1
  cases V
  obtain ⟨its,kk,m1,m2,m3⟩:=a'.list f1
  refine wpAny_Slice (evalPart_some_step ?_)
  show wpAny _ _ (mkInt _) _ _ _
  unfold mkInt
  refine wpAny_bind (wpAny_fresh (wpAny_pure (evalPart_none_step (evalPart_none_step ?_))))
  have a'':=a'.next (tk:=tk + 1) a'.F a'.N a'.R Per.refl
  refine wpAny_mono (slice_step (ws:=vs.drop j) (lo:=some (j:Int)) (hi:=none) (st:=none) a'' f1 m1 m3 hz m2 (.int _ _) .none .none (by decide) ?_ q rfl) (fun _ _ z=>z.trans P) fun _ _ x=>x
  rw [pick_from]
  exact m2.drop j
theorem snd_cat {e₁ e₂:Mine.E} {p q:PySem.Expr} {pos:Pos} (i₁:SndE W Γ c n m priv ρ ns sl e₁ p) (i₂:SndE W Γ c n m priv ρ ns sl e₂ q):SndE W Γ c n m priv ρ ns sl (.cat e₁ e₂) (.BinOp p .Add q pos):=fun Q σ s news X h a=>by
  refine wpAny_BinOp (i₁.then a h fun h' tk news' sv σ' v a' P V k=>i₂.then a' k fun h'' tk' news'' sw σ'' u a'' P' V' k'=>?_)
  obtain ⟨vs,e1,ws,e2,z1,z2,q⟩:=k'
  obtain ⟨l,rfl,f1⟩:=listAt_some e1
  obtain ⟨l',rfl,f2⟩:=listAt_some e2
  cases V
  cases V'
  obtain ⟨its,kk,m1,m2,m3⟩:=a''.list f1
  obtain ⟨its',kk',m1',m2',m3'⟩:=a''.list f2
  refine add_arrays a''.F a''.N m3 m3' (fun h3 F3 N3=>?_) (by rw [m2.size,m2'.size,sizeLine_eq]; omega)
  exact a''.newL (k:=0) (its:=(its.toList ++ its'.toList).toArray) (m2.append m2') F3 N3 (fun p hp=>Heap.lt_size (a''.N p hp).1) (P.trans P') q
end
end Mine
end
section
open PySem PySem.W PyProof.Rows PySem.Calls
namespace Mine
set_option linter.unusedVariables false
section
variable {W:Wld} {c:Cfg} {n:Nat} {m:Str→Option Value} {priv priv' news:News1} {s:Shared} {X:Value→Shared→Prop} {σ:Hp} {ρ:Lc} {ns:Nms} {sl:Sls} {Γ:Cal}
theorem OR.same {prog:Program} {w:World} {cl:Cls} {a:Addr} {so:SO} (h:priv'.map (·.1) = priv.map (·.1)) (o:OR prog w cl priv news a so):OR prog w cl priv' news a so:=by
  cases so with
  | node r=>obtain ⟨d,es,k,h1,h2,h3,h4⟩:=o; exact ⟨d,es,k,h1,h2,by rw [h]; exact h3,h4⟩
  | tree r=>obtain ⟨d,es,k,h1,h2,h3,h4⟩:=o; exact ⟨d,es,k,h1,h2,by rw [h]; exact h3,h4⟩
  | list vs=>exact o
  | dict kvs=>exact o
theorem OR.apart {prog:Program} {w:World} {cl:Cls} {a x:Addr} {so:SO} (nd:(news.map (·.1)).Nodup) (o:OR prog w cl priv news a so) (hx:x ∈ priv.map (·.1)):∀ C dd,(a,instObj C dd) ∈ news→dd ≠ x:=by
  rintro C dd hi rfl
  cases so with
  | node r=>obtain ⟨d,es,k,h1,h2,h3,h4⟩:=o; have:=mem_eq nd hi h1; cases this; exact h3 hx
  | tree r=>obtain ⟨d,es,k,h1,h2,h3,h4⟩:=o; have:=mem_eq nd hi h1; cases this; exact h3 hx
  | list vs=>obtain ⟨its,k,h1,_⟩:=o; exact absurd (mem_eq nd h1 hi) (listOf_inst C dd)
  | dict kvs =>
    obtain ⟨o,k,h1,⟨_,_,hx,_⟩,_⟩:=o
    have:=mem_eq nd h1 hi
    subst this
    cases hx.1
theorem RR.turnP (R:W.R σ priv news) {a:Addr} {o o':Obj} (hm:(a,o) ∈ priv) (ht:notTup o) (hi:notInst o'):W.R σ (updL priv a o') (updL news a o')∧Per news (updL news a o'):=by
  refine ⟨RR.turn R (R.pv _ hm) hi (fun x hx=>by rw [updL_fst] at hx; exact hx) (fun p hp=>?_) fun b x e=>?_,Per.upd R.nd (R.pv _ hm) ht⟩
  · obtain ⟨b,x⟩:=p
    rcases updL_mem hp with ⟨rfl,rfl⟩ | ⟨hne,hp⟩
    · exact updL_self (R.pv _ hm)
    · exact updL_ne (R.pv _ hp) hne
  · have O:=R.ob b x e
    have ha:a ∈ priv.map (·.1):=List.mem_map.mpr ⟨_,hm,rfl⟩
    rw [updL_fst]
    refine ⟨O.1,OR.same (updL_fst ..) (O.2.upd R.nd (R.pv _ hm) ht (fun q=>O.1 (q ▸ ha)) (O.2.apart R.nd ha))⟩
theorem turn_heap {h₀ h h':Heap} {L a:Addr} {o o':Obj} (F:Fr h₀ L h m) (N:News h₀ L h news) (hm:(a,o) ∈ news) (hs:Heap.SameBut a h h') (ho:h'.get? a = some o'):Fr h₀ L h' m∧News h₀ L h' (updL news a o'):=by
  have z:=N _ hm
  refine ⟨F.change hs z.2.1 z.2.2,fun p hp=>?_⟩
  obtain ⟨b,x⟩:=p
  rcases updL_mem hp with ⟨rfl,rfl⟩ | ⟨hne,hp⟩
  · exact ⟨ho,z.2⟩
  · exact ⟨(hs.2 b hne).trans (N _ hp).1,(N _ hp).2⟩
theorem RR.drop (R:W.R σ priv news) {a:Addr} {o:Obj} (hm:(a,o) ∈ priv) (ht:notTup o) (hp:∀ p ∈ priv',p ∈ priv) (ha:a ∉ priv'.map (·.1)) :
    W.R σ priv' (news.filter fun p=>decide (p.1 ≠ a))∧Per news (news.filter fun p=>decide (p.1 ≠ a)):=by
  have keep:∀ {b x},(b,x) ∈ news→b ≠ a→(b,x) ∈ news.filter fun p=>decide (p.1 ≠ a):=fun h hb=>List.mem_filter.mpr ⟨h,by simpa using hb⟩
  have am:a ∈ priv.map (·.1):=List.mem_map.mpr ⟨_,hm,rfl⟩
  have per:Per news (news.filter fun p=>decide (p.1 ≠ a)):=fun b vs hb=>keep hb fun q=>by
    subst q
    exact ht vs (mem_eq R.nd (R.pv _ hm) hb)
  have hless:∀ {d:Addr},d ∉ priv.map (·.1)→d ∉ priv'.map (·.1):=fun hd hm=>by
    obtain ⟨p,hq,rfl⟩:=List.mem_map.mp hm
    exact hd (List.mem_map_of_mem (hp p hq))
  have ne:∀ {d:Addr},d ∉ priv.map (·.1)→d ≠ a:=fun hd q=>hd (q ▸ am)
  refine ⟨⟨?_,?_,?_,?_,?_,?_⟩,per⟩
  · exact List.Nodup.sublist (List.Sublist.map _ List.filter_sublist) R.nd
  · intro p hq
    exact keep (R.pv _ (hp p hq)) fun q=>ha (q ▸ List.mem_map_of_mem hq)
  · intro b x e
    have O:=R.ob b x e
    refine ⟨hless O.1,?_⟩
    have hb:=ne O.1
    cases x with
    | node r=>obtain ⟨d,es,k,h1,h2,h3,h4⟩:=O.2; exact ⟨d,es,k,keep h1 hb,keep h2 (ne h3),hless h3,h4.mono per⟩
    | tree r=>obtain ⟨d,es,k,h1,h2,h3,h4⟩:=O.2; exact ⟨d,es,k,keep h1 hb,keep h2 (ne h3),hless h3,h4.mono per⟩
    | list vs=>obtain ⟨its,k,h1,h2⟩:=O.2; exact ⟨its,k,keep h1 hb,h2.mono per⟩
    | dict kvs=>obtain ⟨o,k,h1,h2,h3,h4⟩:=O.2; exact ⟨o,k,keep h1 hb,h2,h3.mono per,h4⟩
  · intro b b' C C' d h1 h2
    exact R.ui _ _ _ _ d (List.mem_filter.mp h1).1 (List.mem_filter.mp h2).1
  · intro b C d h1
    have h1':=(List.mem_filter.mp h1).1
    obtain ⟨p,hq,rfl⟩:=List.mem_map.mp (R.ud _ _ _ h1')
    exact List.mem_map_of_mem (keep (x:=p.2) hq fun q=>R.pi _ _ _ h1' (q ▸ am))
  · intro b C d h1 hm
    exact R.pi _ _ _ (List.mem_filter.mp h1).1 (by
      obtain ⟨p,hq,rfl⟩:=List.mem_map.mp hm
      exact List.mem_map_of_mem (hp p hq))
end
end Mine
end
section
open PySem PySem.W PyProof.Rows PySem.Calls
namespace Mine
set_option linter.unusedVariables false
structure CellsIn (env:Env) (ns:Nms) (priv pr:News1):Prop where
  sub:∀ p ∈ priv,p ∈ pr
  has:∀ x,ns.lookup x = some .cell→∃ cc o v₀,env.cells.lookup x = some cc∧(cc,o) ∈ pr∧o.data = .cell v₀∧cc ∉ priv.map (·.1)
  inj:∀ x y cc,env.cells.lookup x = some cc→env.cells.lookup y = some cc→x = y
structure AtS (W:Wld) (c:Cfg) (n:Nat) (m:Str→Option Value) (priv pr news:News1) (s:Shared) (σ:Hp) (ρ:Lc) (ns:Nms) (sl:Sls):Prop where
  at_:At W c n m pr news s σ ρ ns sl
  lo:c.env.locals = c.L
  ci:CellsIn c.env ns priv pr
  sd:∀ (i j:Nat) (x:Str),sl[i]? = some (some x)→sl[j]? = some (some x)→i = j
noncomputable def FlR (news:News1):Fl→Flow→Prop
  | .next,.next=>True
  | .ret sv,.ret v=>VR news sv v
  | _,_=>False
inductive PS (W:Wld) (c:Cfg) (n:Nat) (priv:News1) (s:Shared) (news:News1) (ns:Nms) (sl:Sls) (Q:Fl→Lc→Hp→Prop) (fl:Flow) (s':Shared):Prop
  | mk (h':Heap) (tk:Nat) (m':Str→Option Value) (pr' news':News1) (ρ':Lc) (σ':Hp) (f:Fl) (e:s' = { s with heap:=h',toks:=tk }) (a:AtS W c n m' priv pr' news' s' σ' ρ' ns sl) (P:Per news news') (r:FlR news' f fl) (q:Q f ρ' σ')
section
variable {W:Wld} {c:Cfg} {n:Nat} {m:Str→Option Value} {priv pr news:News1} {s:Shared} {X:Value→Shared→Prop} {σ:Hp} {ρ:Lc} {ns:Nms} {sl:Sls} {Γ:Cal}
theorem PS.trans {news₁:News1} {Q:Fl→Lc→Hp→Prop} {fl:Flow} {s':Shared} {h₁:Heap} {t₁:Nat} (hp:Per news news₁) (h:PS W c n priv { s with heap:=h₁,toks:=t₁ } news₁ ns sl Q fl s'):PS W c n priv s news ns sl Q fl s':=by
  obtain ⟨h',tk,m',pr',news',ρ',σ',f,rfl,a,P,r,q⟩:=h
  exact ⟨h',tk,m',pr',news',ρ',σ',f,rfl,a,hp.trans P,r,q⟩
theorem AtS.next (a:AtS W c n m priv pr news s σ ρ ns sl) {h':Heap} {tk:Nat} {news':News1} {σ':Hp} (b:At W c n m pr news' { s with heap:=h',toks:=tk } σ' ρ ns sl) :
    AtS W c n m priv pr news' { s with heap:=h',toks:=tk } σ' ρ ns sl:=⟨b,a.lo,a.ci,a.sd⟩
theorem AtS.end (a:AtS W c n m priv pr news s σ ρ ns sl) {Q:Fl→Lc→Hp→Prop} (q:Q .next ρ σ):PS W c n priv s news ns sl Q .next s :=
  ⟨s.heap,s.toks,m,pr,news,ρ,σ,.next,rfl,a,Per.refl,trivial,q⟩
theorem AtS.endR (a:AtS W c n m priv pr news s σ ρ ns sl) {Q:Fl→Lc→Hp→Prop} {sv:SV} {v:Value} (V:VR news sv v) (q:Q (.ret sv) ρ σ):PS W c n priv s news ns sl Q (.ret v) s :=
  ⟨s.heap,s.toks,m,pr,news,ρ,σ,.ret sv,rfl,a,Per.refl,V,q⟩
noncomputable abbrev SndS (W:Wld) (Γ:Cal) (c:Cfg) (n:Nat) (ns:Nms) (sl:Sls) (st:Mine.S) (ps:Stmt):Prop :=
  ∀ (Q:Fl→Lc→Hp→Prop) (ρ:Lc) (σ:Hp) (s:Shared) (m:Str→Option Value) (priv pr news:News1) (X:Value→Shared→Prop),wpS Γ st Q ρ σ→AtS W c n m priv pr news s σ ρ ns sl→wpAny W.M c.A (exec ps c.env) (PS W c n priv s news ns sl Q) X s
noncomputable abbrev SndSs (W:Wld) (Γ:Cal) (c:Cfg) (n:Nat) (ns:Nms) (sl:Sls) (st:Mine.Ss) (ps:List Stmt):Prop :=
  ∀ (Q:Fl→Lc→Hp→Prop) (ρ:Lc) (σ:Hp) (s:Shared) (m:Str→Option Value) (priv pr news:News1) (X:Value→Shared→Prop),wpSs Γ st Q ρ σ→AtS W c n m priv pr news s σ ρ ns sl→wpAny W.M c.A (execs ps c.env) (PS W c n priv s news ns sl Q) X s
noncomputable abbrev SE (W:Wld) (Γ:Cal) (c:Cfg) (n:Nat) (ns:Nms) (sl:Sls) (e:Mine.E) (p:PySem.Expr):Prop:=∀ m pr ρ,SndE W Γ c n m pr ρ ns sl e p
noncomputable abbrev ST (W:Wld) (Γ:Cal) (c:Cfg) (n:Nat) (ns:Nms) (sl:Sls) (e:Mine.E) (p:PySem.Expr):Prop:=∀ m pr ρ,SndT W Γ c n m pr ρ ns sl e p
noncomputable abbrev SEs (W:Wld) (Γ:Cal) (c:Cfg) (n:Nat) (ns:Nms) (sl:Sls) (e:Mine.Es) (p:List PySem.Expr):Prop:=∀ m pr ρ,SndEs W Γ c n m pr ρ ns sl e p
theorem snds_ss_nil:SndSs W Γ c n ns sl .nil []:=fun Q ρ σ s m priv pr news X h a=>wpAny_execs_nil (a.end h)
theorem snds_ss_cons {st:Mine.S} {r:Mine.Ss} {p:Stmt} {ps:List Stmt} (i₁:SndS W Γ c n ns sl st p) (i₂:SndSs W Γ c n ns sl r ps):SndSs W Γ c n ns sl (.cons st r) (p :: ps):=fun Q ρ σ s m priv pr news X h a=>by
  refine wpAny_execs_cons (wpAny_mono (i₁ _ ρ σ s m priv pr news X h a) (fun fl s' z=>?_) fun _ _ x=>x)
  obtain ⟨h',tk,m',pr',news',ρ',σ',f,rfl,a',P,r',q⟩:=z
  cases f with
  | next =>
    cases fl <;> first | exact r'.elim | skip
    exact wpAny_mono (i₂ Q ρ' σ' _ m' priv pr' news' X q a') (fun _ _ z=>z.trans P) fun _ _ x=>x
  | ret sv =>
    cases fl <;> first | exact r'.elim | skip
    exact ⟨h',tk,m',pr',news',ρ',σ',.ret sv,rfl,a',P,r',q⟩
theorem rd_set {ρ:Lc} {i j:Nat} {v:Option SV} {x:SV} (h:rd (ρ.set i v) j = some x):(i = j∧v = some x) ∨ (i ≠ j∧rd ρ j = some x):=by
  unfold rd at h ⊢
  by_cases e:i = j
  · subst e
    rw [List.getElem?_set] at h
    simp only [if_true] at h
    split at h
    · exact .inl ⟨rfl,by simpa using h⟩
    · cases h
  · rw [List.getElem?_set_ne e] at h
    exact .inr ⟨e,h⟩
theorem AtS.store (a:AtS W c n m priv pr news s σ ρ ns sl) {i:Nat} {y:Str} {sv:SV} {v:Value} {Q:Unit→Shared→Prop} (hs:stOk ns sl i y = true) (V:VR news sv v)
    (k:∀ h' tk m' pr' news',AtS W c n m' priv pr' news' { s with heap:=h',toks:=tk } σ (ρ.set i (some sv)) ns sl→Per news news'→Q () { s with heap:=h',toks:=tk }):wpAny W.M c.A (storeName c.env y v) Q X s:=by
  unfold stOk at hs
  simp only [Bool.and_eq_true,beq_iff_eq,Bool.or_eq_true] at hs
  obtain ⟨hi,hk⟩:=hs
  have nam:∀ {j z},sl[j]? = some (some z)→i ≠ j→z ≠ y:=fun hj hne e=>hne (a.sd _ _ _ hi (e ▸ hj))
  have noL:∀ o,(c.L,o) ∉ news:=fun o h=>(a.at_.N _ h).2.1 rfl
  rcases hk with hk | hk
  · refine wpAny_storeName_local (a.at_.kind hk) (by rw [a.lo]; exact a.at_.F.ns) (fun h' hn hsb=>?_) (by rw [a.at_.eo.sk]; rfl)
    rw [a.lo] at hn hsb
    refine k h' _ (fun z=>if z = y then some v else m z) pr news ⟨⟨a.at_.ok,a.at_.eo,a.at_.F.set hn hsb,a.at_.N.set hsb,a.at_.R,fun j z x h1 h2=>?_⟩,a.lo,a.ci,a.sd⟩ Per.refl
    rcases rd_set h2 with ⟨rfl,e⟩ | ⟨hne,e⟩
    · rw [hi] at h1
      cases h1
      cases e
      exact ⟨v,V,.inl ⟨a.at_.kind hk,a.lo,if_pos rfl⟩⟩
    · obtain ⟨u,hu,r⟩:=a.at_.nr j z x h1 e
      refine ⟨u,hu,?_⟩
      rcases r with ⟨r1,r2,r3⟩ | r | r
      · exact .inl ⟨r1,r2,by show (if z = y then some v else m z) = some u; rw [if_neg (nam h1 hne)]; exact r3⟩
      · exact .inr (.inl r)
      · exact .inr (.inr r)
  · obtain ⟨cc,o,v₀,h1,h2,h3,h4⟩:=a.ci.has y hk
    have hm:=a.at_.R.pv _ h2
    refine wpAny_storeName_cell a.at_.eo.sk (a.at_.kind hk) h1 ⟨o,(a.at_.N _ hm).1,h3⟩ fun h' hv hsb=>?_
    obtain ⟨o',ho',hd'⟩:=hv
    obtain ⟨F',N'⟩:=turn_heap a.at_.F a.at_.N hm hsb ho'
    have ht:notTup o:=fun vs e=>by subst e; cases h3
    have hi':notInst o':=fun C d e=>by subst e; cases hd'
    obtain ⟨R',P'⟩:=RR.turnP a.at_.R h2 ht hi'
    refine k h' _ m _ _ ⟨⟨a.at_.ok,a.at_.eo,F',N',R',fun j z x g1 g2=>?_⟩,a.lo,⟨fun p hp=>?_,fun z hz=>?_,a.ci.inj⟩,a.sd⟩ P'
    · rcases rd_set g2 with ⟨rfl,e⟩ | ⟨hne,e⟩
      · rw [hi] at g1
        cases g1
        cases e
        exact ⟨v,V.mono P',.inr (.inr ⟨a.at_.kind hk,cc,o',h1,updL_self h2,hd'⟩)⟩
      · obtain ⟨u,hu,r⟩:=a.at_.nr j z x g1 e
        refine ⟨u,hu.mono P',?_⟩
        rcases r with r | ⟨_,ob,_,r2,_⟩ | ⟨r1,cc',ob,r2,r3,r4⟩
        · exact .inl r
        · rw [a.lo] at r2
          exact absurd (a.at_.R.pv _ r2) (noL _)
        · refine .inr (.inr ⟨r1,cc',ob,r2,updL_ne r3 fun q=>?_,r4⟩)
          subst q
          exact nam g1 hne (a.ci.inj _ _ _ r2 h1)
    · obtain ⟨b,x⟩:=p
      exact updL_ne (a.ci.sub _ hp) fun (q:b = cc)=>h4 (by subst q; exact List.mem_map.mpr ⟨_,hp,rfl⟩)
    · obtain ⟨cc',ob,v₁,g1,g2,g3,g4⟩:=a.ci.has z hz
      by_cases q:cc' = cc
      · subst q
        exact ⟨cc',o',_,g1,updL_self h2,hd',g4⟩
      · exact ⟨cc',ob,v₁,g1,updL_ne g2 q,g3,g4⟩
theorem interactive_no (a:At W c n m pr news s σ ρ ns sl):interactive c.env = false:=by
  unfold interactive
  rw [a.eo.sk]
  rfl
theorem swaps_none {p:PySem.Expr} {t:Option PySem.Expr} {l:Nat} {env:Env} (h:notComp p = true):swapsWith p t l env = pure false:=by
  cases p <;> first | rfl | cases h
theorem snd_expr {e:Mine.E} {p:PySem.Expr} {pos:Pos} (hc:notComp p = true) (ih:SE W Γ c n ns sl e p):SndS W Γ c n ns sl (.expr e) (.Expr p pos):=fun Q ρ σ s m priv pr news X h a=>by
  refine wpAny_Expr_any ((ih m pr ρ).then a.at_ h fun h' tk news' sv σ' v a' P V q=>?_) (interactive_no a.at_) (swaps_none hc)
  exact PS.trans P ((a.next a').end q)
theorem snd_assign {e:Mine.E} {p:PySem.Expr} {i:Nat} {y:Str} {tp pos:Pos} (hs:stOk ns sl i y = true) (hc:notComp p = true) (ih:SE W Γ c n ns sl e p):SndS W Γ c n ns sl (.assign i e) (.Assign [.Name y tp] p pos):=fun Q ρ σ s m priv pr news X h a=>by
  refine wpAny_Assign_Name ((ih m pr ρ).then a.at_ h fun h' tk news' sv σ' v a' P V q=>?_) (swaps_none hc)
  exact (a.next a').store hs V fun h'' tk' m' pr' news'' a'' P'=>PS.trans P (PS.trans P' (a''.end q))
theorem isStr_key {v:Value} {x:Str} (h:v.isStr x = true):∃ t,v = .str x t:=by
  cases v <;> first | cases h | skip
  rename_i y t
  have:y = x:=by
    have h':(x == y) = true ∨ (y == x) = true:=by first | exact .inl h | exact .inr h
    rcases h' with h' | h'
    · exact (beq_iff_eq.mp h').symm
    · exact beq_iff_eq.mp h'
  exact ⟨t,by rw [this]⟩
theorem isStr_ne {v:Value} {x y:Str} (h:v.isStr x = true) (hn:x ≠ y):v.isStr y = false:=by
  cases q:v.isStr y with
  | false=>rfl
  | true =>
    obtain ⟨t,rfl⟩:=isStr_key h
    obtain ⟨t',e⟩:=isStr_key q
    cases e
    exact absurd rfl hn
theorem putL_self {x:Str} {hs:Int} {k v:Value}:∀ {es:List DictEntry} {e:DictEntry},es.find? (fun e=>e.key.isStr x) = some e→∃ e',(putL x hs k v es).find? (fun e=>e.key.isStr x) = some e'∧e'.val = v
  | [],_,h=>by rw [List.find?_nil] at h; cases h
  | a :: r,e,h=>by
    unfold putL
    by_cases q:a.key.isStr x = true
    · rw [if_pos q]
      exact ⟨⟨a.hash,a.key,v⟩,by rw [List.find?_cons]; simp only [q],rfl⟩
    · rw [if_neg q]
      rw [List.find?_cons] at h ⊢
      simp only [Bool.not_eq_true] at q
      simp only [q] at h ⊢
      exact putL_self h
theorem putL_other {x y:Str} (hn:x ≠ y) {hs:Int} {k v:Value}:∀ {es:List DictEntry} {e:DictEntry},(es.any fun e=>e.key.isStr x) = true→es.find? (fun e=>e.key.isStr y) = some e→(putL x hs k v es).find? (fun e=>e.key.isStr y) = some e
  | [],_,_,h=>by rw [List.find?_nil] at h; cases h
  | a :: r,e,ha,h=>by
    unfold putL
    by_cases q:a.key.isStr x = true
    · rw [if_pos q]
      have q2:=isStr_ne q hn
      rw [List.find?_cons] at h ⊢
      simp only [q2] at h ⊢
      exact h
    · rw [if_neg q]
      rw [List.find?_cons] at h ⊢
      rw [List.any_cons] at ha
      simp only [Bool.not_eq_true] at q
      simp only [q,Bool.false_or] at ha
      cases q3:a.key.isStr y with
      | true=>simp only [q3] at h ⊢; exact h
      | false=>simp only [q3] at h ⊢; exact putL_other hn ha h
theorem putL_len {x:Str} {hs:Int} {k v:Value}:∀ {es:List DictEntry},(es.any fun e=>e.key.isStr x) = true→(putL x hs k v es).length = es.length
  | [],ha=>by rw [List.any_nil] at ha; cases ha
  | a :: r,ha=>by
    unfold putL
    by_cases q:a.key.isStr x = true
    · rw [if_pos q]; rfl
    · rw [if_neg q]
      rw [List.any_cons] at ha
      simp only [Bool.not_eq_true] at q
      simp only [q,Bool.false_or] at ha
      rw [List.length_cons,List.length_cons,putL_len ha]
theorem nm_inj {f g:Fld} (h:f.nm = g.nm):f = g:=by
  have key:∀ f:Fld,fldOf f.nm = some f:=fun f=>by cases f <;> decide
  have:=key f
  rw [h,key g] at this
  exact (Option.some.inj this).symm
theorem opt_of {v:SV} {o:Option Nat} (h:unopt v = some o):opt o = v:=by
  cases v <;> cases h <;> rfl
theorem Nd.set_get {r r':Nd} {f:Fld} {w:SV} (h:r.set f w = some r'):(∃ x,r.get f = some x)∧∀ g,r'.get g = if g = f then some w else r.get g:=by
  cases f <;> first
    | (cases h; done)
    | (obtain ⟨i,e,rfl⟩:=Option.map_eq_some_iff.mp h
       refine ⟨⟨_,rfl⟩,fun g=>?_⟩
       first
         | (obtain rfl:=asInt_some e; cases g <;> rfl)
         | (obtain rfl:=asBool_some e; cases g <;> rfl)
         | (have e':=opt_of e; subst e'; cases g <;> rfl))
theorem Tr.set_get {r r':Tr} {f:Fld} {w:SV} (h:r.set f w = some r'):(∃ x,r.get f = some x)∧∀ g,r'.get g = if g = f then some w else r.get g:=by
  cases f <;> first
    | (cases h; done)
    | (obtain ⟨i,e,rfl⟩:=Option.map_eq_some_iff.mp h
       refine ⟨⟨_,rfl⟩,fun g=>?_⟩
       first
         | (obtain rfl:=asInt_some e; cases g <;> rfl)
         | (obtain rfl:=asBool_some e; cases g <;> rfl)
         | (have e':=opt_of e; subst e'; cases g <;> rfl))
theorem SO.set_get {r r':SO} {f:Fld} {w:SV} (h:r.set f w = some r'):(∃ x,r.get f = some x)∧(∀ g,r'.get g = if g = f then some w else r.get g) ∧
    ((∃ a b,r = .node a∧r' = .node b) ∨ (∃ a b,r = .tree a∧r' = .tree b)):=by
  cases r with
  | node r =>
    obtain ⟨r₁,e,rfl⟩:=Option.map_eq_some_iff.mp h
    exact ⟨(Nd.set_get e).1,(Nd.set_get e).2,.inl ⟨_,_,rfl,rfl⟩⟩
  | tree r =>
    obtain ⟨r₁,e,rfl⟩:=Option.map_eq_some_iff.mp h
    exact ⟨(Tr.set_get e).1,(Tr.set_get e).2,.inr ⟨_,_,rfl,rfl⟩⟩
  | list vs=>cases h
  | dict kvs=>cases h
theorem AtS.setF (KC:W.Clss) (a:AtS W c n m priv pr news s σ ρ ns sl) {σ':Hp} {ov w:SV} {u v:Value} {f:Fld} {Q:Unit→Shared→Prop} (e:Mine.setF σ ov f w = some σ') (V:VR news ov u) (V':VR news w v)
    (k:∀ h' tk news',AtS W c n m priv pr news' { s with heap:=h',toks:=tk } σ' ρ ns sl→Per news news'→Q () { s with heap:=h',toks:=tk }):wpAny W.M c.A (setAttr u f.nm v) Q X s:=by
  obtain ⟨l,e1,e⟩:=Option.bind_eq_some_iff.mp e
  obtain ⟨o,e2,e⟩:=Option.bind_eq_some_iff.mp e
  obtain ⟨o',e3,e4⟩:=Option.map_eq_some_iff.mp e
  obtain rfl:=asRef_some e1
  cases V
  subst e4
  have b:=a.at_
  obtain ⟨⟨x,g1⟩,g2,g3⟩:=SO.set_get e3
  obtain ⟨C,d,es,kk,hC,i1,i2,i3,i4⟩:=inst_of b.R e2 g1
  obtain ⟨en,he,hv⟩:=i4.2 _ _ g1
  have hany:(es.any fun e=>e.key.isStr f.nm) = true:=List.any_eq_true.mpr ⟨en,List.mem_of_find?_eq_some he,List.find?_some (p:=fun e:DictEntry=>e.key.isStr f.nm) he⟩
  refine set_dict (K:=W.K) b.F b.ok.X b.N (InstAt.of_news b.N i1 i2) rfl (KC.sa C hC) (KC.po C hC) (KC.tk C hC f) (KC.hd C hC) (by rw [getL_of he]; rfl) rfl (upd_of b.R.nd i2)
    (by rw [putL_len hany]; exact Nat.le_trans i4.1 (by decide)) fun h' F' N'=>?_
  have hes:EsR news o'.get (putL f.nm (PyData.keyHash W.w.params f.nm) (.str f.nm (s.toks + 1)) v es):=by
    refine ⟨by rw [putL_len hany]; exact i4.1,fun g y hg=>?_⟩
    rw [g2] at hg
    by_cases hgf:g = f
    · subst hgf
      rw [if_pos rfl] at hg
      cases hg
      obtain ⟨e',h1,h2⟩:=putL_self (hs:=PyData.keyHash W.w.params g.nm) (k:=.str g.nm (s.toks + 1)) (v:=v) he
      exact ⟨e',h1,by rw [h2]; exact V'⟩
    · rw [if_neg hgf] at hg
      obtain ⟨e',h1,h2⟩:=i4.2 _ _ hg
      exact ⟨e',putL_other (fun q=>hgf (nm_inj q).symm) hany h1,h2⟩
  have hp:Per news (updL news d (dictOf (putL f.nm (PyData.keyHash W.w.params f.nm) (.str f.nm (s.toks + 1)) v es) (putN f.nm es kk))):=Per.upd b.R.nd i2 dictOf_tup
  have hnew:OR W.prog W.w W.cl pr (updL news d (dictOf (putL f.nm (PyData.keyHash W.w.params f.nm) (.str f.nm (s.toks + 1)) v es) (putN f.nm es kk))) l o':=by
    have hld:l ≠ d:=fun q=>by subst q; exact dictOf_inst C _ (mem_eq b.R.nd i2 i1)
    rcases g3 with ⟨r,r',rfl,rfl⟩ | ⟨r,r',rfl,rfl⟩
    · obtain ⟨d',es',k',j1,j2,j3,j4⟩:=(b.R.ob l _ e2).2
      have q:=mem_eq b.R.nd i1 j1
      cases q
      exact ⟨d,_,_,updL_ne i1 hld,updL_self i2,i3,hes.mono hp⟩
    · obtain ⟨d',es',k',j1,j2,j3,j4⟩:=(b.R.ob l _ e2).2
      have q:=mem_eq b.R.nd i1 j1
      cases q
      exact ⟨d,_,_,updL_ne i1 hld,updL_self i2,i3,hes.mono hp⟩
  obtain ⟨R',P'⟩:=RR.setInst b.R i1 i2 i3 he e2 hnew
  exact k h' _ _ (a.next (b.next F' N' R' P')) P'
theorem snd_setattr (KC:W.Clss) {o v:Mine.E} {f:Fld} {po pv:PySem.Expr} {x:Str} {ap pos:Pos} (hx:(x == f.nm) = true) (hc:notComp pv = true) (i₁:SE W Γ c n ns sl o po) (i₂:SE W Γ c n ns sl v pv) :
    SndS W Γ c n ns sl (.setattr o f v) (.Assign [.Attribute po x ap] pv pos):=fun Q ρ σ s m priv pr news X h a=>by
  obtain rfl:=beq_iff_eq.mp hx
  refine plainObj_wpAny_Assign_Attribute ((i₂ m pr ρ).then a.at_ h fun h₁ t₁ n₁ sv₁ σ₁ v₁ a₁ P₁ V₁ q₁=>(i₁ m pr ρ).then a₁ q₁ fun h₂ t₂ n₂ sv₂ σ₂ v₂ a₂ P₂ V₂ q₂=>?_) (swaps_none hc)
  obtain ⟨σ₃,e,q⟩:=q₂
  exact AtS.setF KC (a.next a₂) e V₂ (V₁.mono P₂) fun h₃ t₃ n₃ a₃ P₃=>PS.trans (P₁.trans (P₂.trans P₃)) (a₃.end q)
end
end Mine
end
section
open PySem PySem.W PyProof.Rows PySem.Calls
namespace Mine
set_option linter.unusedVariables false
section
variable {W:Wld} {c:Cfg} {n:Nat} {m:Str→Option Value} {priv pr news:News1} {s:Shared} {X:Value→Shared→Prop} {σ:Hp} {ρ:Lc} {ns:Nms} {sl:Sls} {Γ:Cal}
theorem setAt_some {σ σ':Hp} {v i w:SV} (h:setAt σ v i w = some σ'):∃ a k,v = .ref a∧i = .int k ∧
    ((∃ vs,σ a = some (.list vs)∧0 ≤ k∧k < vs.length∧k < 1000∧σ' = upd σ a (.list (vs.set k.toNat w))) ∨ (∃ kvs,σ a = some (.dict kvs)∧kvs.length < 1000∧σ' = upd σ a (.dict (dput kvs k w)))):=by
  obtain ⟨a,e1,h⟩:=Option.bind_eq_some_iff.mp h
  obtain ⟨k,e2,h⟩:=Option.bind_eq_some_iff.mp h
  obtain ⟨o,e3,h⟩:=Option.bind_eq_some_iff.mp h
  refine ⟨a,k,asRef_some e1,asInt_some e2,?_⟩
  cases o with
  | list vs =>
    dsimp only at h
    split at h
    · rename_i hc
      cases h
      exact .inl ⟨vs,e3,hc.1,hc.2.1,hc.2.2,rfl⟩
    · cases h
  | dict kvs =>
    dsimp only at h
    split at h
    · rename_i hc
      cases h
      exact .inr ⟨kvs,e3,hc,rfl⟩
    · cases h
  | node _=>cases h
  | tree _=>cases h
theorem AtS.dictTurn (a:AtS W c n m priv pr news s σ ρ ns sl) {d:Nat} {kvs kvs':List (Int × SV)} {o o':Obj} {us us':List (Int × Value)} {h':Heap} {tk:Nat} (e:σ d = some (.dict kvs)) (hm:(d,o) ∈ news) (hd:Obj.IsDictOf (PySem.intKind W.prog W.w) o us)
    (hd':Obj.IsDictOf (PySem.intKind W.prog W.w) o' us') (hr:DR news kvs' us') (lo:(d == sysModules) = false) (F:Fr c.h₀ c.L h' m) (N:News c.h₀ c.L h' (updL news d o')) :
    AtS W c n m priv pr (updL news d o') { s with heap:=h',toks:=tk } (upd σ d (.dict kvs')) ρ ns sl∧Per news (updL news d o'):=by
  have ht:notTup o:=fun vs q=>by subst q; obtain ⟨_,_,hx,_⟩:=hd; exact absurd (Value.type.inj hx.1) (by decide)
  have hi:notInst o':=fun C x q=>by subst q; obtain ⟨_,_,hx,_⟩:=hd'; cases hx.1
  have hp:Per news (updL news d o'):=Per.upd a.at_.R.nd hm ht
  have R':=RR.set1 a.at_.R (so':=.dict kvs') e hm hi ht (fun es k e f he=>intDict_ne hd he) ⟨o',us',updL_self hm,hd',hr.mono hp,lo⟩
  exact ⟨a.next (a.at_.next F N R' hp),hp⟩
theorem AtS.setI (a:AtS W c n m priv pr news s σ ρ ns sl) {σ':Hp} {ov iv w:SV} {u i v:Value} {Q:Unit→Shared→Prop} (e:setAt σ ov iv w = some σ') (V:VR news ov u) (Vi:VR news iv i) (V':VR news w v)
    (k:∀ h' tk news',AtS W c n m priv pr news' { s with heap:=h',toks:=tk } σ' ρ ns sl→Per news news'→Q () { s with heap:=h',toks:=tk }):wpAny W.M c.A (setItem u i v) Q X s:=by
  obtain ⟨d,j,rfl,rfl,h⟩:=setAt_some e
  cases V
  obtain ⟨t,rfl⟩:=Vi
  rcases h with ⟨vs,e1,h0,h1,h2,rfl⟩ | ⟨kvs,e1,hz,rfl⟩
  · obtain ⟨its,kk,i1,i2,i3⟩:=a.at_.list e1
    have hsz:=i2.size
    have z:=a.at_.N _ i1
    refine ki_setAt z.1 h0 (Int.lt_trans h2 (by decide)) (by rw [hsz]; exact h1) ?_
    have hu:(s.heap.update d (Obj.mapSeq fun x=>x.setIfInBounds j.toNat v)).get? d = some (listOf (its.setIfInBounds j.toNat v) kk):=by
      have q:=PySem.IsL.update z.1 (fun x=>x.setIfInBounds j.toNat v)
      rw [if_pos (by simp)] at q
      exact q
    obtain ⟨F',N'⟩:=turn_heap a.at_.F a.at_.N i1 (Heap.SameBut.update s.heap d _) hu
    have hv:VRs news (vs.set j.toNat w) (its.setIfInBounds j.toNat v).toList:=by
      rw [Array.toList_setIfInBounds]
      exact VRs.set V' _ i2
    obtain ⟨R',P'⟩:=RR.setList a.at_.R (n':=kk) e1 i1 hv
    exact k _ _ _ (a.next (a.at_.next F' N' R' P')) P'
  · obtain ⟨o,us,i1,i2,i3,i4⟩:=a.at_.dict e1
    refine kda_set a.at_.F a.at_.N (updF_of a.at_.R.nd i1) i2 (intKind_is _ _ _ _) (by rw [← i3.len,sizeLine_eq]; omega) fun h' o' F' N' hd'=>?_
    obtain ⟨a',P'⟩:=a.dictTurn (tk:=s.toks + 1) e1 i1 i2 hd' (i3.put V') i4 F' N'
    exact k _ _ _ a' P'
theorem snd_setidx {o i v:Mine.E} {po pi pv:PySem.Expr} {ap pos:Pos} (hc:notComp pv = true) (i₁:SE W Γ c n ns sl o po) (i₂:SE W Γ c n ns sl i pi) (i₃:SE W Γ c n ns sl v pv) :
    SndS W Γ c n ns sl (.setidx o i v) (.Assign [.Subscript po pi ap] pv pos):=fun Q ρ σ s m priv pr news X h a=>by
  refine wpAny_Assign_Subscript ((i₃ m pr ρ).then a.at_ h fun h₁ t₁ n₁ sv₁ σ₁ v₁ a₁ P₁ V₁ q₁=>(i₁ m pr ρ).then a₁ q₁ fun h₂ t₂ n₂ sv₂ σ₂ v₂ a₂ P₂ V₂ q₂=>(i₂ m pr ρ).then a₂ q₂ fun h₃ t₃ n₃ sv₃ σ₃ v₃ a₃ P₃ V₃ q₃=>?_) (swaps_none hc)
  obtain ⟨σ₄,e,q⟩:=q₃
  exact AtS.setI (a.next a₃) e (V₂.mono P₃) V₃ (V₁.mono (P₂.trans P₃)) fun h₄ t₄ n₄ a₄ P₄=>PS.trans (((P₁.trans P₂).trans P₃).trans P₄) (a₄.end q)
theorem dget_valueAt {as:List (Int × SV)} {vs:List (Int × Value)} {i:Int} (h:DR news as vs) (e:(dget as i).isSome = true):(valueAt vs i).isSome = true:=by
  obtain ⟨x,hx⟩:=Option.isSome_iff_exists.mp e
  obtain ⟨v,hv,_⟩:=h.get hx
  rw [hv]; rfl
theorem snd_delidx {o i:Mine.E} {po pi:PySem.Expr} {ap pos:Pos} (i₁:SE W Γ c n ns sl o po) (i₂:SE W Γ c n ns sl i pi) :
    SndS W Γ c n ns sl (.delidx o i) (.Delete [.Subscript po pi ap] pos):=fun Q ρ σ s m priv pr news X h a=>by
  refine wpAny_Delete (wpAny_deleteEach_cons (wpAny_delete_Subscript ((i₁ m pr ρ).then a.at_ h fun h₁ t₁ n₁ sv₁ σ₁ v₁ a₁ P₁ V₁ q₁=>(i₂ m pr ρ).then a₁ q₁ fun h₂ t₂ n₂ sv₂ σ₂ v₂ a₂ P₂ V₂ q₂=>?_)))
  obtain ⟨d,e1,kvs,e2,k,e3,hs,hz,q⟩:=q₂
  obtain ⟨l,e4,f2⟩:=dictAt_some e2
  obtain rfl:=asRef_some e1
  cases e4
  obtain rfl:=asInt_some e3
  cases V₁
  obtain ⟨t,rfl⟩:=V₂
  have a':=a.next a₂
  obtain ⟨oo,us,j1,j2,j3,j4⟩:=a₂.dict f2
  refine kob_del a₂.F a₂.N (updF_of a₂.R.nd j1) j2 (intKind_is _ _ _ _) (dget_valueAt j3 hs) (by rw [← j3.len,sizeLine_eq]; omega) fun h₃ o' F' N' hd'=>?_
  obtain ⟨a'',P'⟩:=a'.dictTurn (tk:=t₂ + 1) f2 j1 j2 hd' j3.del j4 F' N'
  exact wpAny_deleteEach_nil (PS.trans ((P₁.trans P₂).trans P') (a''.end q))
theorem snd_ret {e:Mine.E} {p:PySem.Expr} {pos:Pos} (ih:SE W Γ c n ns sl e p):SndS W Γ c n ns sl (.ret e) (.Return (some p) pos):=fun Q ρ σ s m priv pr news X h a =>
  wpAny_Return_some ((ih m pr ρ).then a.at_ h fun h₁ t₁ n₁ sv₁ σ₁ v₁ a₁ P₁ V₁ q₁=>PS.trans P₁ ((a.next a₁).endR V₁ q₁))
theorem snd_retNone {pos:Pos}:SndS W Γ c n ns sl .retNone (.Return none pos):=fun Q ρ σ s m priv pr news X h a=>wpAny_Return_none (a.endR VR.none h)
theorem snd_if {e:Mine.E} {b₁ b₂:Mine.Ss} {p:PySem.Expr} {x y:List Stmt} {pos:Pos} (i₁:ST W Γ c n ns sl e p) (i₂:SndSs W Γ c n ns sl b₁ x) (i₃:SndSs W Γ c n ns sl b₂ y):SndS W Γ c n ns sl (.ite e b₁ b₂) (.If p x y pos):=fun Q ρ σ s m priv pr news X h a=>by
  refine wpAny_If ((i₁ m pr ρ).then (K:=fun t σ=>if t then wpSs Γ b₁ Q ρ σ else wpSs Γ b₂ Q ρ σ) a.at_ h fun h₁ t₁ n₁ σ₁ t a₁ P₁ k=>?_)
  cases t with
  | true=>exact wpAny_mono (i₂ Q ρ σ₁ _ m priv pr n₁ X k (a.next a₁)) (fun _ _ z=>z.trans P₁) fun _ _ x=>x
  | false=>exact wpAny_mono (i₃ Q ρ σ₁ _ m priv pr n₁ X k (a.next a₁)) (fun _ _ z=>z.trans P₁) fun _ _ x=>x
theorem snd_while {e:Mine.E} {b:Mine.Ss} {p:PySem.Expr} {x:List Stmt} {pos:Pos} (i₁:ST W Γ c n ns sl e p) (i₂:SndSs W Γ c n ns sl b x):SndS W Γ c n ns sl (.while e b) (.While p x [] pos):=fun Q ρ σ s m priv pr news X h a=>by
  let I:Lc→Hp→Prop:=fun ρ σ=>∀ s m pr news,AtS W c n m priv pr news s σ ρ ns sl →
    WhlRest W.prog W.w c.A (fun _ _=>False) c.env p x [] (PS W c n priv s news ns sl Q) 1 s
  have key:I ρ σ:=h I fun ρ σ hstep s m pr news a=>by
    refine whl_turn (k:=0) PassesOwn.never ?_
    refine (i₁ m pr ρ).then (K:=fun t σ=>if t then wpSs Γ b (fun fl ρ σ=>match fl with | .next=>I ρ σ | .ret w=>Q (.ret w) ρ σ) ρ σ else Q .next ρ σ) a.at_ hstep fun h₁ t₁ n₁ σ₁ t a₁ P₁ k=>?_
    cases t with
    | false=>exact WhlIf.no rfl (wpAny_execs_nil (PS.trans P₁ ((a.next a₁).end k)))
    | true =>
      refine WhlIf.yes rfl (wpAny_mono (i₂ _ ρ σ₁ _ m priv pr n₁ _ k (a.next a₁)) (fun fl s' z=>?_) fun _ _ x=>x)
      obtain ⟨h',tk,m',pr',news',ρ',σ',f,rfl,a',P,r',q⟩:=z
      cases f with
      | next =>
        cases fl <;> first | exact r'.elim | skip
        have q':=q _ _ _ _ a'
        exact codeAny_mono q' fun r s' z=>by
          cases r with
          | ok f=>exact PS.trans (P₁.trans P) z
          | error e=>exact z
      | ret sv =>
        cases fl <;> first | exact r'.elim | skip
        exact ⟨h',tk,m',pr',news',ρ',σ',.ret sv,rfl,a',P₁.trans P,r',q⟩
  exact wpAny_mono (whl_start 1 (key s m pr news a)) (fun _ _ z=>z) fun _ _ x=>x.elim
end
end Mine
end
section
open PySem PySem.W PyProof.Rows PySem.Calls
namespace Mine
set_option linter.unusedVariables false
section
variable {W:Wld} {c:Cfg} {n:Nat} {m:Str→Option Value} {priv pr news:News1} {s:Shared} {X:Value→Shared→Prop} {σ:Hp} {ρ:Lc} {ns:Nms} {sl:Sls} {Γ:Cal}
noncomputable def Named (ns:Nms) (sl:Sls):List Nat→List Str→Prop
  | [],[]=>True
  | i :: is,x :: xs=>stOk ns sl i x = true∧Named ns sl is xs
  | _,_=>False
theorem locOk_st {i:Nat} {x:Str} (h:locOk ns sl i x = true):stOk ns sl i x = true:=by
  unfold locOk at h
  unfold stOk
  simp only [Bool.and_eq_true] at h ⊢
  exact ⟨h.1,by rw [h.2]; rfl⟩
theorem namesOk_ind {P:List Nat→List PySem.Expr→Prop} (h0:P [] []) (h1:∀ i is x pos ps,locOk ns sl i x = true→namesOk ns sl is ps = true→P is ps→P (i :: is) (.Name x pos :: ps)):∀ {is:List Nat} {ps:List PySem.Expr},namesOk ns sl is ps = true→P is ps
  | [],[],_=>h0
  | [],_ :: _,h=>Bool.noConfusion h
  | i :: is,[],h=>Bool.noConfusion h
  | i :: is,p :: ps,h=>by
    cases p <;> first | exact Bool.noConfusion h | skip
    rename_i x pos
    have h2:(locOk ns sl i x && namesOk ns sl is ps) = true:=h
    rw [Bool.and_eq_true] at h2
    exact h1 i is x pos ps h2.1 h2.2 (namesOk_ind h0 h1 h2.2)
theorem named_of:∀ {is:List Nat} {ps:List PySem.Expr},namesOk ns sl is ps = true→Named ns sl is (namesOf ps)∧(namesOf ps).length = ps.length:=namesOk_ind (P:=fun is ps=>Named ns sl is (namesOf ps)∧(namesOf ps).length = ps.length) ⟨trivial,rfl⟩ fun _ _ _ _ _ h1 _ ih=>⟨⟨locOk_st h1,ih.1⟩,congrArg (· + 1) ih.2⟩
theorem Named.append:∀ {is js:List Nat} {xs ys:List Str},Named ns sl is xs→Named ns sl js ys→Named ns sl (is ++ js) (xs ++ ys)
  | [],_,[],_,_,h=>h
  | _ :: _,_,_ :: _,_,⟨a,h⟩,h'=>⟨a,Named.append h h'⟩
theorem Named.rev:∀ {is:List Nat} {xs:List Str},Named ns sl is xs→Named ns sl is.reverse xs.reverse
  | [],[],_=>trivial
  | _ :: _,_ :: _,⟨a,h⟩=>by rw [List.reverse_cons,List.reverse_cons]; exact Named.append (Named.rev h) ⟨a,trivial⟩
theorem Named.len:∀ {is:List Nat} {xs:List Str},Named ns sl is xs→is.length = xs.length
  | [],[],_=>rfl
  | _ :: _,_ :: _,⟨_,h⟩=>by rw [List.length_cons,List.length_cons,Named.len h]
noncomputable def Stores (W:Wld) (c:Cfg):List (Value→Sem Unit)→List Str→Prop
  | [],[]=>True
  | f :: fs,x :: xs=>(∀ (v:Value) (Q:Unit→Shared→Prop) (X:Value→Shared→Prop) (s:Shared),wpAny W.M c.A (storeName c.env x v) Q X s→wpAny W.M c.A (f v) Q X s)∧Stores W c fs xs
  | _,_=>False
theorem stores_bind:∀ xs:List Str,Stores W c (xs.map fun x=>bindName c.env x) xs
  | []=>trivial
  | x :: xs=>⟨fun _ _ _ _ h=>bindName_ h,stores_bind xs⟩
theorem assign_many {Q:Unit→Shared→Prop} (is:List Nat):∀ (fs:List (Value→Sem Unit)) (xs:List Str) (svs:List SV) (vs:List Value) (m:Str→Option Value) (pr news:News1) (s:Shared) (ρ:Lc),Stores W c fs xs→Named ns sl is xs→is.length = svs.length→VRs news svs vs→AtS W c n m priv pr news s σ ρ ns sl →
    (∀ h' tk m' pr' news',AtS W c n m' priv pr' news' { s with heap:=h',toks:=tk } σ (setMany is svs ρ) ns sl→Per news news'→Q () { s with heap:=h',toks:=tk }) →
    wpAny W.M c.A (assignInOrder fs vs) Q X s:=by
  induction is with
  | nil =>
    intro fs xs svs vs m pr news s ρ hs hn hl V a k
    cases xs with
    | cons _ _=>exact hn.elim
    | nil =>
      cases fs with
      | cons _ _=>exact hs.elim
      | nil =>
        cases svs with
        | cons _ _=>cases hl
        | nil =>
          cases vs with
          | cons _ _=>exact V.elim
          | nil=>exact assignInOrder_nil (k s.heap s.toks m pr news a Per.refl)
  | cons i is ih =>
    intro fs xs svs vs m pr news s ρ hs hn hl V a k
    cases xs with
    | nil=>exact hn.elim
    | cons x xs =>
      cases fs with
      | nil=>exact hs.elim
      | cons f fs =>
        cases svs with
        | nil=>cases hl
        | cons sv svs =>
          cases vs with
          | nil=>exact V.elim
          | cons v vs =>
            refine assignInOrder_cons (hs.1 _ _ _ _ (a.store hn.1 V.1 fun h' tk m' pr' news' a' P=>?_))
            exact ih fs xs svs vs m' pr' news' _ _ hs.2 hn.2 (Nat.succ.inj hl) (V.2.mono P) a' fun h'' tk' m'' pr'' news'' a'' P'=>k h'' tk' m'' pr'' news'' a'' (P.trans P')
noncomputable def isStarE:PySem.Expr→Bool
  | .Starred ..=>true
  | _=>false
noncomputable def nameAt (env:Env) (l:Nat):PySem.Expr→Option Str
  | .Name id pos=>if (env.kindOf id == some .local && pos.line == l) = true then some id else none
  | _=>none
theorem swapped_eq {ts vs:List PySem.Expr} {k k':Nat} {p p':Pos} {env:Env}:swappedStores [.Tuple ts k p] (.Tuple vs k' p') env = (
    if (!(ts.length == 2 || ts.length == 3) || vs.length != ts.length || env.blockKind != .function) = true then pure none else
    if (vs.any isStarE) = true then pure none else
    if ((ts.filterMap (nameAt env ((ts.head?.map (·.pos.line)).getD 0))).length != ts.length || (ts.filterMap (nameAt env ((ts.head?.map (·.pos.line)).getD 0))).eraseDups.length != (ts.filterMap (nameAt env ((ts.head?.map (·.pos.line)).getD 0))).length) = true then pure none else
    if vs.all (foldedForSure 8) = true then pure none else
    if vs.all (constantsAlone 8) = true then unsupported "assign.tuple-of-constant-expressions:order-of-the-stores" else
    pure (some (ts.filterMap (nameAt env ((ts.head?.map (·.pos.line)).getD 0))))):=by
  rfl
theorem swapped_of {ts vs:List PySem.Expr} {k k':Nat} {p p':Pos} {is:List Nat} {env:Env} (hk:env.scope.kind = .function) (hnm:env.scope.names = ns) (h1:namesOk ns sl is ts = true) (h2:asgOk ts vs = true) (h3:vs.all notStar = true) :
    swappedStores [.Tuple ts k p] (.Tuple vs k' p') env = pure (some (namesOf ts)):=by
  unfold asgOk at h2
  simp only [Bool.and_eq_true,Bool.not_eq_true'] at h2
  obtain ⟨⟨⟨⟨⟨g1,g2⟩,g3⟩,g4⟩,g5⟩,g6⟩:=h2
  have g2':vs.length = ts.length:=beq_iff_eq.mp g2
  have g4':(namesOf ts).eraseDups.length = ts.length:=beq_iff_eq.mp g4
  have hb:env.blockKind = .function:=by unfold Env.blockKind; rw [hk]; rfl
  have hst:vs.any isStarE = false:=by
    rw [List.any_eq_false]
    intro x hx
    have:=List.all_eq_true.mp h3 x hx
    cases x <;> first | exact Bool.false_ne_true | exact Bool.noConfusion this
  have hfm:∀ (l:Nat) (ts:List PySem.Expr) (is:List Nat),namesOk ns sl is ts = true→linesOk l ts = true→ts.filterMap (nameAt env l) = namesOf ts:=by
    intro l ts is h
    refine namesOk_ind (P:=fun _ ts=>linesOk l ts = true→ts.filterMap (nameAt env l) = namesOf ts) (fun _=>rfl) (fun i is id pos r h1 _ ih h2=>?_) h
    have h2:(pos.line == l && linesOk l r) = true:=h2
    rw [Bool.and_eq_true] at h2
    have hl:env.kindOf id = some .local:=by
      unfold locOk at h1
      rw [Bool.and_eq_true] at h1
      unfold Env.kindOf
      rw [hnm]
      exact beq_iff_eq.mp h1.2
    have e1:nameAt env l (.Name id pos) = some id:=by
      show (if (env.kindOf id == some .local && pos.line == l) = true then some id else none) = some id
      rw [hl,h2.1]
      rfl
    rw [List.filterMap_cons,e1,ih h2.2]
    rfl
  have hlen:=(named_of h1).2
  rw [swapped_eq,hfm _ _ _ h1 g3,hst,hb,g2',hlen,g4',g1]
  simp only [bne_self_eq_false,Bool.not_true,Bool.or_false,Bool.false_eq_true,if_false,g5,g6]
theorem snd_asg {is:List Nat} {es:Mine.Es} {ts vs:List PySem.Expr} {k k':Nat} {p p' pos:Pos} (h1:namesOk ns sl is ts = true) (h2:asgOk ts vs = true) (h3:vs.all notStar = true) (ih:SEs W Γ c n ns sl es vs) :
    SndS W Γ c n ns sl (.asg is es) (.Assign [.Tuple ts k p] (.Tuple vs k' p') pos):=fun Q ρ σ s m priv pr news X h a=>by
  refine Assign_Tuple_swapped (names:=namesOf ts) ?_ rfl (swapped_of a.at_.eo.sk a.at_.eo.nm h1 h2 h3)
  refine Tuple_ ((ih m pr ρ).then a.at_ h fun h₁ t₁ n₁ svs σ₁ us a₁ P₁ V₁ q₁=>?_)
  have hn:=named_of h1
  have hlen:us.length = (namesOf ts).length:=by rw [← V₁.len,q₁.1]; exact hn.1.len
  have hle:us.length ≤ sizeLine:=by
    unfold asgOk at h2
    simp only [Bool.and_eq_true,beq_iff_eq,Bool.or_eq_true] at h2
    rw [hlen,hn.2,sizeLine_eq]
    omega
  refine newTuple_N a₁.F a₁.N (fun h₂ F₂ N₂=>?_) hle
  have R₂:=a₁.R.push (o:=tupO us) (fun p hp=>Heap.lt_size (a₁.N p hp).1) tupO_inst
  have a₂:=a₁.next (tk:=t₁) F₂ N₂ R₂ Per.cons
  have ht:IsTup h₂ h₁.objs.size us.toArray:=⟨_,(N₂ _ (.head _)).1,rfl,0,rfl⟩
  have hsz:(namesOf ts).length = us.toArray.size:=by rw [List.size_toArray]; exact hlen.symm
  rw [hsz]
  refine unpackItems_tuple a₂.ok.hh ht fun h₃ he=>?_
  have a₃:=a₂.next (tk:=t₁) (a₂.F.extBut he (Nat.le_refl _)) (a₂.N.extBut he (Nat.le_refl _)) a₂.R Per.refl
  show wpAny _ _ (assignInOrder ((namesOf ts).reverse.map fun n=>bindName c.env n) us.reverse) _ _ _
  exact assign_many is.reverse _ (namesOf ts).reverse svs.reverse us.reverse m pr _ _ ρ (stores_bind _) hn.1.rev (by rw [List.length_reverse,List.length_reverse,q₁.1]) ((V₁.mono Per.cons).rev) (a.next a₃) fun h₄ t₄ m' pr' news' a₄ P₄ =>
    PS.trans (P₁.trans (Per.cons.trans P₄)) (a₄.end q₁.2)
theorem named_each:∀ (ts:List PySem.Expr) (is:List Nat),namesOk ns sl is ts = true→(assignEach ts c.env).length = ts.length∧(assignEach ts c.env).findIdx? (·.1) = none∧Stores W c ((assignEach ts c.env).map (·.2)) (namesOf ts):=by
    intro ts is h
    refine namesOk_ind (P:=fun _ ts=>(assignEach ts c.env).length = ts.length∧(assignEach ts c.env).findIdx? (·.1) = none∧Stores W c ((assignEach ts c.env).map fun q:Bool × (Value→Sem Unit)=>q.2) (namesOf ts)) ⟨rfl,rfl,trivial⟩ (fun i is id pos r _ _ ⟨j1,j2,j3⟩=>⟨?_,?_,fun v Q X s h=>wpAny_assign_Name h,j3⟩) h
    · show (assignEach r c.env).length + 1 = r.length + 1
      rw [j1]
    · show List.findIdx? _ ((false,assign (.Name id pos) c.env) :: assignEach r c.env) = none
      rw [List.findIdx?_cons,j2]
      rfl
theorem snd_unpack {is:List Nat} {e:Mine.E} {ts:List PySem.Expr} {y:Str} {k:Nat} {p p' pos:Pos} (h1:namesOk ns sl is ts = true) (ih:SE W Γ c n ns sl e (.Name y p')) :
    SndS W Γ c n ns sl (.unpack is e) (.Assign [.Tuple ts k p] (.Name y p') pos):=fun Q ρ σ s m priv pr news X h a=>by
  refine Assign_Tuple ((ih m pr ρ).then a.at_ h fun h₁ t₁ n₁ sv σ₁ u a₁ P₁ V₁ q₁=>?_) rfl rfl
  obtain ⟨vs,e1,hl,q⟩:=q₁
  obtain ⟨l,rfl,f1⟩:=listAt_some e1
  cases V₁
  obtain ⟨its,kk,i1,i2,i3⟩:=a₁.list f1
  have hn:=named_of h1
  obtain ⟨j1,j2,j3⟩:=named_each (W:=W) (c:=c) ts is h1
  have hsz:=i2.size
  have hnl:=hn.1.len
  refine kun_list a₁.F a₁.N i3 a₁.ok.hh (by rw [j1,hsz,hl,hnl,hn.2]) j2 fun h₂ F₂ N₂=>?_
  have a₂:=a₁.next (tk:=t₁) F₂ N₂ a₁.R Per.refl
  exact assign_many is _ (namesOf ts) vs its.toList m pr _ _ ρ j3 hn.1 hl.symm i2 (a.next a₂) fun h₄ t₄ m' pr' news' a₄ P₄=>PS.trans (P₁.trans P₄) (a₄.end q)
end
end Mine
end
section
open PySem PySem.W PyProof.Rows PySem.Calls
namespace Mine
set_option linter.unusedVariables false
section
variable {W:Wld} {c:Cfg} {n:Nat} {m:Str→Option Value} {priv pr news:News1} {s:Shared} {X:Value→Shared→Prop} {σ:Hp} {ρ:Lc} {ns:Nms} {sl:Sls} {Γ:Cal}
theorem snd_asgAttr2 (KC:W.Clss) {o₁ o₂ e₁ e₂:Mine.E} {f₁ f₂:Fld} {p₁ p₂ pa pb:PySem.Expr} {x₁ x₂:Str} {k k':Nat} {a₁ a₂ p p' pos:Pos} (hx₁:(x₁ == f₁.nm) = true) (hx₂:(x₂ == f₂.nm) = true) (hs₁:notStar pa = true) (hs₂:notStar pb = true)
    (i₁:SE W Γ c n ns sl o₁ p₁) (i₂:SE W Γ c n ns sl o₂ p₂) (j₁:SE W Γ c n ns sl e₁ pa) (j₂:SE W Γ c n ns sl e₂ pb) :
    SndS W Γ c n ns sl (.asgAttr2 o₁ f₁ o₂ f₂ e₁ e₂) (.Assign [.Tuple [.Attribute p₁ x₁ a₁,.Attribute p₂ x₂ a₂] k p] (.Tuple [pa,pb] k' p') pos):=fun Q ρ σ s m priv pr news X h a=>by
  obtain rfl:=beq_iff_eq.mp hx₁
  obtain rfl:=beq_iff_eq.mp hx₂
  refine Assign_Tuple ?_ rfl (by
    rw [swapped_eq]
    split
    · rfl
    · split
      · rfl
      · exact if_pos rfl)
  refine Tuple_ (spliced_more ((j₁ m pr ρ).then a.at_ h fun h₁ t₁ n₁ sv₁ σ₁ v₁ b₁ P₁ V₁ q₁=>spliced_more ((j₂ m pr ρ).then b₁ q₁ fun h₂ t₂ n₂ sv₂ σ₂ v₂ b₂ P₂ V₂ q₂=>spliced_none ?_) (star_cons hs₂)) (star_cons hs₁))
  refine newTuple_N b₂.F b₂.N (fun h₃ F₃ N₃=>?_) (by rw [sizeLine_eq]; simp)
  have b₃:=b₂.next (tk:=t₂) F₃ N₃ (b₂.R.push (o:=tupO [v₁,v₂]) (fun p hp=>Heap.lt_size (b₂.N p hp).1) tupO_inst) Per.cons
  have ht:IsTup h₃ h₂.objs.size [v₁,v₂].toArray:=⟨_,(N₃ _ (.head _)).1,rfl,0,rfl⟩
  refine unpackN_ b₃.F b₃.N ht b₃.ok.hh rfl rfl fun h₄ F₄ N₄=>?_
  have b₄:=b₃.next (tk:=t₂) F₄ N₄ b₃.R Per.refl
  have W₁:=(V₁.mono P₂).mono (Per.cons (p:=(h₂.objs.size,tupO [v₁,v₂])))
  have W₂:=V₂.mono (Per.cons (p:=(h₂.objs.size,tupO [v₁,v₂])))
  have PP:=(P₁.trans P₂).trans (Per.cons (p:=(h₂.objs.size,tupO [v₁,v₂])))
  refine assignInOrder_cons (kas_attr ((i₁ m pr ρ).then b₄ q₂ fun h₅ t₅ n₅ sv₅ σ₅ v₅ b₅ P₅ V₅ q₅=>?_))
  obtain ⟨σ₆,g₆,q₆⟩:=q₅
  refine AtS.setF KC (a.next b₅) g₆ V₅ (W₁.mono P₅) fun h₇ t₇ n₇ a₇ P₇=>?_
  refine assignInOrder_cons (kas_attr ((i₂ m pr ρ).then a₇.at_ q₆ fun h₈ t₈ n₈ sv₈ σ₈ v₈ b₈ P₈ V₈ q₈=>?_))
  obtain ⟨σ₉,g₉,q₉⟩:=q₈
  refine AtS.setF KC (a₇.next b₈) g₉ V₈ (W₂.mono ((P₅.trans P₇).trans P₈)) fun h₁₀ t₁₀ n₁₀ a₁₀ P₁₀=>assignInOrder_nil ?_
  exact PS.trans (PP.trans (((P₅.trans P₇).trans P₈).trans P₁₀)) (a₁₀.end q₉)
structure ItKind (W:Wld) (all:List SV) (ok:Hp→Prop) (it:Addr) (ex news₀:News1) (It:Nat→Obj→Prop):Prop where
  kind:∀ i o,It i o→notTup o∧notInst o∧(∀ v,o.data ≠ .cell v)
  item:∀ (i:Nat) (sv:SV) (c:Cfg) (n:Nat) (m:Str→Option Value) (pr news:News1) (s:Shared) (σ:Hp) (ρ:Lc) (ns:Nms) (sl:Sls) (io:Obj) (Q:Option Value→Shared→Prop) (X:Value→Shared→Prop),all[i]? = some sv→At W c n m pr news s σ ρ ns sl→ok σ→It i io→(it,io) ∈ pr→(∀ p ∈ ex,p ∈ pr)→Per news₀ news →
    (∀ h' tk v io',VR news sv v→Heap.SameBut it s.heap h'→h'.get? it = some io'→It (i + 1) io'→Q (some v) { s with heap:=h',toks:=tk })→wpAny W.M c.A (pyNext (.ref it)) Q X s
  stop:∀ (c:Cfg) (n:Nat) (m:Str→Option Value) (pr news:News1) (s:Shared) (σ:Hp) (ρ:Lc) (ns:Nms) (sl:Sls) (io:Obj) (Q:Option Value→Shared→Prop) (X:Value→Shared→Prop),At W c n m pr news s σ ρ ns sl→ok σ→It all.length io→(it,io) ∈ pr→(∀ p ∈ ex,p ∈ pr)→Per news₀ news →
    (∀ h',Heap.ExtBut it s.heap h'→Q none { s with heap:=h' })→wpAny W.M c.A (pyNext (.ref it)) Q X s
theorem AtS.lessP {priv₁:News1} (a:AtS W c n m priv₁ pr news s σ ρ ns sl) (h:∀ p ∈ priv,p ∈ priv₁):AtS W c n m priv pr news s σ ρ ns sl :=
  ⟨a.at_,a.lo,⟨fun p hp=>a.ci.sub p (h p hp),fun x hx=>by
    obtain ⟨cc,o,v,h1,h2,h3,h4⟩:=a.ci.has x hx
    exact ⟨cc,o,v,h1,h2,h3,fun hm=>h4 (by
      obtain ⟨p,hp,rfl⟩:=List.mem_map.mp hm
      exact List.mem_map_of_mem (h p hp))⟩,a.ci.inj⟩,a.sd⟩
theorem NRes.turn {pr' news':News1} {env:Env} {L:Addr} (h:NRes env sl ρ L m pr news) (hl:env.locals = L) (hL:∀ o,(L,o) ∉ pr) (hp:Per news news') (hc:∀ cc o v,(cc,o) ∈ pr→o.data = .cell v→(cc,o) ∈ pr'):NRes env sl ρ L m pr' news':=fun i x sv h1 h2=>by
  obtain ⟨v,hv,r⟩:=h i x sv h1 h2
  refine ⟨v,hv.mono hp,?_⟩
  rcases r with r | ⟨_,ob,_,r2,_⟩ | ⟨r1,cc,o,r2,r3,r4⟩
  · exact .inl r
  · rw [hl] at r2; exact absurd r2 (hL _)
  · exact .inr (.inr ⟨r1,cc,o,r2,hc _ _ _ r3 r4,r4⟩)
theorem AtS.turnIt {ex:News1} {it:Addr} {io io':Obj} {h':Heap} {tk:Nat} (a:AtS W c n m ((it,io) :: priv) pr news s σ ρ ns sl) (ht:notTup io) (hc:∀ v,io.data ≠ .cell v) (hi:notInst io') (hit:it ∉ priv.map (·.1)) (hs:Heap.SameBut it s.heap h') (ho:h'.get? it = some io') :
    AtS W c n m ((it,io') :: priv) (updL pr it io') (updL news it io') { s with heap:=h',toks:=tk } σ ρ ns sl∧Per news (updL news it io'):=by
  have hm:(it,io) ∈ pr:=a.ci.sub _ (.head _)
  obtain ⟨F',N'⟩:=turn_heap a.at_.F a.at_.N (a.at_.R.pv _ hm) hs ho
  obtain ⟨R',P'⟩:=RR.turnP a.at_.R hm ht hi
  have noL:∀ o,(c.L,o) ∉ pr:=fun o h=>(a.at_.N _ (a.at_.R.pv _ h)).2.1 rfl
  have ne:∀ {cc:Addr} {o:Obj} {v:Option Value},(cc,o) ∈ pr→o.data = .cell v→cc ≠ it:=fun h hd q=>by
    subst q
    have:=mem_eq a.at_.R.nd (a.at_.R.pv _ h) (a.at_.R.pv _ hm)
    subst this
    exact hc _ hd
  refine ⟨⟨⟨a.at_.ok,a.at_.eo,F',N',R',a.at_.nr.turn a.lo noL P' fun cc o v h hd=>updL_ne h (ne h hd)⟩,a.lo,⟨fun p hp=>?_,fun x hx=>?_,a.ci.inj⟩,a.sd⟩,P'⟩
  · rcases List.mem_cons.mp hp with rfl | hp
    · exact updL_self hm
    · obtain ⟨b,y⟩:=p
      exact updL_ne (a.ci.sub _ (.tail _ hp)) fun (q:b = it)=>hit (by rw [← q]; exact List.mem_map.mpr ⟨(b,y),hp,rfl⟩)
  · obtain ⟨cc,o,v,h1,h2,h3,h4⟩:=a.ci.has x hx
    exact ⟨cc,o,v,h1,updL_ne h2 (ne h2 h3),h3,fun q=>h4 (by simpa using q)⟩
theorem AtS.dropIt {it:Addr} {io:Obj} {h':Heap} {tk:Nat} (a:AtS W c n m ((it,io) :: priv) pr news s σ ρ ns sl) (ht:notTup io) (hc:∀ v,io.data ≠ .cell v) (hit:it ∉ priv.map (·.1)) (hs:Heap.ExtBut it s.heap h') :
    AtS W c n m priv (pr.filter fun p=>decide (p.1 ≠ it)) (news.filter fun p=>decide (p.1 ≠ it)) { s with heap:=h',toks:=tk } σ ρ ns sl∧Per news (news.filter fun p=>decide (p.1 ≠ it)):=by
  have hm:(it,io) ∈ pr:=a.ci.sub _ (.head _)
  have z:=a.at_.N _ (a.at_.R.pv _ hm)
  have noL:∀ o,(c.L,o) ∉ pr:=fun o h=>(a.at_.N _ (a.at_.R.pv _ h)).2.1 rfl
  have ne:∀ {cc:Addr} {o:Obj} {v:Option Value},(cc,o) ∈ pr→o.data = .cell v→cc ≠ it:=fun h hd q=>by
    subst q
    have:=mem_eq a.at_.R.nd (a.at_.R.pv _ h) (a.at_.R.pv _ hm)
    subst this
    exact hc _ hd
  have keep:∀ {b x},(b,x) ∈ pr→b ≠ it→(b,x) ∈ pr.filter fun p=>decide (p.1 ≠ it):=fun h hb=>List.mem_filter.mpr ⟨h,by simpa using hb⟩
  obtain ⟨R',P'⟩:=RR.drop (priv':=pr.filter fun p=>decide (p.1 ≠ it)) a.at_.R hm ht (fun p hp=>(List.mem_filter.mp hp).1) (fun hq=>by
    obtain ⟨p,hp,e⟩:=List.mem_map.mp hq
    exact absurd e (by simpa using (List.mem_filter.mp hp).2))
  have F':Fr c.h₀ c.L h' m:=⟨a.at_.F.ns.extBut hs (Ne.symm z.2.1),fun b o e=>hs b o (fun q=>by rw [q,z.2.2] at e; cases e) (a.at_.F.keep b o e),a.at_.F.above⟩
  have N':News c.h₀ c.L h' (news.filter fun p=>decide (p.1 ≠ it)):=fun p hp=>by
    have hp':=List.mem_filter.mp hp
    have y:=a.at_.N p hp'.1
    exact ⟨hs _ _ (by simpa using hp'.2) y.1,y.2⟩
  refine ⟨⟨⟨a.at_.ok,a.at_.eo,F',N',R',a.at_.nr.turn a.lo noL P' fun cc o v h hd=>keep h (ne h hd)⟩,a.lo,⟨fun p hp=>?_,fun x hx=>?_,a.ci.inj⟩,a.sd⟩,P'⟩
  · obtain ⟨b,y⟩:=p
    exact keep (a.ci.sub _ (.tail _ hp)) fun (q:b = it)=>hit (by rw [← q]; exact List.mem_map.mpr ⟨(b,y),hp,rfl⟩)
  · obtain ⟨cc,o,v,h1,h2,h3,h4⟩:=a.ci.has x hx
    exact ⟨cc,o,v,h1,keep h2 (ne h2 h3),h3,fun q=>h4 (by rw [List.map_cons]; exact .tail _ q)⟩
inductive ForI (W:Wld) (c:Cfg) (n:Nat) (ns:Nms) (sl:Sls) (it:Addr) (ex priv:News1) (It:Nat→Obj→Prop) (ok:Hp→Prop) (news:News1) (s:Shared) (all:List SV) (G:List SV→Lc→Hp→Prop) (k:Nat) (s':Shared):Prop
  | mk (h:Heap) (tk:Nat) (m:Str→Option Value) (pr nw:News1) (ρ:Lc) (σ:Hp) (io:Obj) (j:Nat) (e:s' = { s with heap:=h,toks:=tk }) (a:AtS W c n m ((it,io) :: (ex ++ priv)) pr nw s' σ ρ ns sl) (hj:It j io) (ho:ok σ) (P:Per news nw) (hjk:j + k = all.length) (w:G (all.drop j) ρ σ)
theorem for_loop {all:List SV} {ok:Hp→Prop} {it:Addr} {ex:News1} {It:Nat→Obj→Prop} {i:Nat} {y:Str} {yp:Pos} {body:Mine.Ss} {pb:List Stmt} (hx:locOk ns sl i y = true) (ib:SndSs W Γ c n ns sl body pb) (s:Shared) (news:News1)
    (KI:ItKind W all ok it ex news It) (Q:Fl→Lc→Hp→Prop) (hit:it ∉ (ex ++ priv).map (·.1)) (ht:∀ v,letOwnedTupleGo (.Name y yp) (.ref it) v = pure ())
    {io:Obj} (h0:It 0 io) (ho:ok σ) (a:AtS W c n m ((it,io) :: (ex ++ priv)) pr news s σ ρ ns sl) (w:forGo i (fun K ρ σ=>wpSs Γ body K ρ σ) ok all Q ρ σ) :
    codeAny W.M c.A (.forLoop (.Name y yp) (.ref it) pb [] c.env) (fun r s'=>match r with | .ok f=>PS W c n priv s news ns sl Q f s' | .error e=>False) s:=by
  refine codeAny_forLoop (ForI W c n ns sl it ex priv It ok news s all fun r ρ σ=>forGo i (fun K ρ σ=>wpSs Γ body K ρ σ) ok r Q ρ σ)
    (fun k s' hI=>?_) all.length ⟨s.heap,s.toks,m,pr,news,ρ,σ,io,0,rfl,a,h0,ho,Per.refl,Nat.zero_add _,w⟩ ht
  obtain ⟨h,tk,m,pr,nw,ρ,σ,io,j,rfl,a,hj,ho,P,hjk,w⟩:=hI
  have hm:(it,io) ∈ pr:=a.ci.sub _ (.head _)
  have hex:∀ p ∈ ex,p ∈ pr:=fun p hp=>a.ci.sub _ (.tail _ (List.mem_append_left _ hp))
  cases k with
  | zero =>
    have ej:j = all.length:=by omega
    subst ej
    refine KI.stop c n m pr nw _ σ ρ ns sl io _ _ a.at_ ho hj hm hex P fun h' he=>?_
    rw [List.drop_length] at w
    obtain ⟨a',P'⟩:=AtS.dropIt (tk:=tk) a (KI.kind _ _ hj).1 (KI.kind _ _ hj).2.2 hit he
    exact wpAny_execs_nil (PS.trans (P.trans P') ((a'.lessP fun p hp=>List.mem_append_right _ hp).end w))
  | succ k =>
    have hlt:j < all.length:=by omega
    have ed:all.drop j = all[j] :: all.drop (j + 1):=by rw [List.drop_eq_getElem_cons hlt]
    rw [ed] at w
    refine KI.item j all[j] c n m pr nw _ σ ρ ns sl io _ _ (List.getElem?_eq_getElem hlt) a.at_ ho hj hm hex P fun h' tk' v io' V hs ho' hj'=>?_
    obtain ⟨a',P'⟩:=AtS.turnIt (ex:=ex) (tk:=tk') a (KI.kind _ _ hj).1 (KI.kind _ _ hj).2.2 (KI.kind _ _ hj').2.1 hit hs ho'
    refine wpAny_assign_Name (a'.store (locOk_st hx) (V.mono P') fun h₂ t₂ m₂ pr₂ nw₂ a₂ P₂=>?_)
    have w':wpSs Γ body (fun fl ρ σ=>match fl with | .next=>ok σ∧forGo i (fun K ρ σ=>wpSs Γ body K ρ σ) ok (all.drop (j + 1)) Q ρ σ | .ret w=>Q (.ret w) ρ σ) (ρ.set i (some all[j])) σ:=w
    refine wpAny_mono (ib _ _ _ _ _ _ _ _ _ w' a₂) (fun f s₃ z=>?_) fun _ _ x=>x
    obtain ⟨h₃,t₃,m₃,pr₃,nw₃,ρ₃,σ₃,g,rfl,a₃,P₃,r,q⟩:=z
    have PP:=((P.trans P').trans P₂).trans P₃
    cases g with
    | next =>
      cases f <;> first | exact r.elim | skip
      exact ⟨k,Nat.lt_succ_self k,h₃,t₃,m₃,pr₃,nw₃,ρ₃,σ₃,io',j + 1,rfl,a₃,hj',q.1,PP,by omega,q.2⟩
    | ret sv =>
      cases f <;> first | exact r.elim | skip
      exact ⟨h₃,t₃,m₃,pr₃,nw₃,ρ₃,σ₃,.ret sv,rfl,a₃.lessP fun p hp=>.tail _ (List.mem_append_right _ hp),PP,r,q⟩
end
end Mine
end
section
open PySem PySem.W PyProof.Rows PySem.Calls
namespace Mine
set_option linter.unusedVariables false
section
variable {W:Wld} {c:Cfg} {n:Nat} {m:Str→Option Value} {priv pr news:News1} {s:Shared} {X:Value→Shared→Prop} {σ:Hp} {ρ:Lc} {ns:Nms} {sl:Sls} {Γ:Cal}
theorem notSet_it {p:PySem.Expr} {env:Env} (h:notSet p = true) (x:Value):foldedSetIterable p env x = pure x:=by
  cases p <;> first | rfl | cases h
theorem size_fresh (N:News c.h₀ c.L s.heap news):∀ p ∈ news,p.1 < s.heap.objs.size:=fun p hp=>Heap.lt_size (N p hp).1
theorem AtS.pushIt (a:AtS W c n m priv pr news s σ ρ ns sl) {io:Obj} {tk:Nat} (hi:notInst io) (hf:io.isFreed = false) :
    AtS W c n m ((s.heap.objs.size,io) :: priv) ((s.heap.objs.size,io) :: pr) ((s.heap.objs.size,io) :: news) { s with heap:=s.heap.push io,toks:=tk } σ ρ ns sl∧s.heap.objs.size ∉ priv.map (·.1):=by
  have hfr:=size_fresh a.at_.N
  have R':=RR.pushP a.at_.R hfr hi
  have npr:=RR.notPriv a.at_.R hfr
  refine ⟨⟨⟨a.at_.ok,a.at_.eo,a.at_.F.push io,News.push a.at_.F a.at_.N io hf,R',a.at_.nr.mono Per.cons fun p hp=>.tail _ hp⟩,a.lo,⟨fun p hp=>?_,fun x hx=>?_,a.ci.inj⟩,a.sd⟩,fun hm=>?_⟩
  · rcases List.mem_cons.mp hp with rfl | hp
    · exact .head _
    · exact .tail _ (a.ci.sub _ hp)
  · obtain ⟨cc,o,v,h1,h2,h3,h4⟩:=a.ci.has x hx
    refine ⟨cc,o,v,h1,.tail _ h2,h3,fun q=>?_⟩
    rcases List.mem_cons.mp q with q | q
    · have q':cc = s.heap.objs.size:=q
      exact npr (by rw [← q']; exact List.mem_map.mpr ⟨_,h2,rfl⟩)
    · exact h4 q
  · obtain ⟨p,hp,e⟩:=List.mem_map.mp hm
    exact npr (by rw [← e]; exact List.mem_map_of_mem (a.ci.sub _ hp))
noncomputable def ListIt (l:Addr) (i:Nat) (o:Obj):Prop:=o.cls = .type "list_iterator"∧o.data = .fields #[.ref l,.int i 0]
theorem type_ne {a b:String} (h:a ≠ b) {o:Obj} (e:o.cls = .type a):o.cls ≠ .type b:=fun q=>h (Value.type.inj (e.symm.trans q))
theorem kind_it {T:String} {o:Obj} {fs:Array Value} (hT:T ≠ "tuple") (h:o.cls = .type T) (hd:o.data = .fields fs):notTup o∧notInst o∧(∀ v,o.data ≠ .cell v) :=
  ⟨fun vs e=>hT (by subst e; exact (Value.type.inj h).symm),fun C d e=>by (subst e; cases h),fun v e=>by rw [hd] at e; cases e⟩
theorem list_kind {l it:Addr} {all:List SV} {news₀:News1}:ItKind W all (fun σ=>σ l = some (.list all)) it [] news₀ (ListIt l) where
  kind:=fun i o h=>kind_it (by decide) h.1 h.2
  item:=fun i sv c n m pr news s σ ρ ns sl io Q X hi a ok hI hm _ _ k=>by
    obtain ⟨its,kk,i1,i2,i3⟩:=a.list ok
    obtain ⟨v,g1,g2⟩:=i2.get hi
    refine wpAny_pyNext_list_item (it:=it) (l:=l) (i:=i) ⟨io,(a.N _ (a.R.pv _ hm)).1,hI.1,hI.2⟩ i3 (x:=v) (by rw [← Array.getElem?_toList]; exact g1) fun h' hit hs=>?_
    obtain ⟨o',j1,j2,j3⟩:=hit
    exact k h' s.toks v o' g2 hs j1 ⟨j2,j3⟩
  stop:=fun c n m pr news s σ ρ ns sl io Q X a ok hI hm _ _ k=>by
    obtain ⟨its,kk,i1,i2,i3⟩:=a.list ok
    have hz:=i2.size
    exact wpAny_pyNext_list_end (it:=it) (l:=l) (i:=all.length) a.ok.hh ⟨io,(a.N _ (a.R.pv _ hm)).1,hI.1,hI.2⟩ i3 (by rw [← hz]; exact Array.getElem?_eq_none (Nat.le_refl _)) k
theorem snd_forList {e:Mine.E} {p:PySem.Expr} {i:Nat} {y:Str} {yp pos:Pos} {body:Mine.Ss} {pb:List Stmt} (hx:locOk ns sl i y = true) (hn:notSet p = true) (ih:SE W Γ c n ns sl e p) (ib:SndSs W Γ c n ns sl body pb) :
    SndS W Γ c n ns sl (.forList i e body) (.For (.Name y yp) p pb [] pos):=fun Q ρ σ s m priv pr news X h a=>by
  refine wpAny_For ((ih m pr ρ).then a.at_ h fun h₁ t₁ n₁ sv σ₁ v a₁ P₁ V₁ q=>?_) (notSet_it hn)
  obtain ⟨l,e1,all,e2,q⟩:=q
  obtain ⟨l',rfl,f1⟩:=listAt_some e2
  cases e1
  cases V₁
  obtain ⟨its,kk,i1,i2,i3⟩:=a₁.list f1
  refine wpAny_pyIter_list i3 ?_
  obtain ⟨b,hit⟩:=(a.next a₁).pushIt (tk:=t₁) (io:={ cls:=.type "list_iterator",data:=.fields #[.ref l,.int 0 0] }) (kind_it (T:="list_iterator") (by decide) rfl rfl).2.1 rfl
  refine codeAny_mono (for_loop (W:=W) (ex:=[]) (it:=h₁.objs.size) (all:=all) (It:=ListIt l) (ok:=fun σ=>σ l = some (.list all)) hx ib _ _ list_kind Q hit (fun _=>rfl) ⟨rfl,rfl⟩ f1 b q) fun r s' z=>?_
  cases r with
  | ok f=>exact PS.trans (P₁.trans Per.cons) z
  | error e=>exact z.elim
noncomputable def TupIt (t:Addr) (i:Nat) (o:Obj):Prop:=o.cls = .type "tuple_iterator"∧o.data = .fields #[.ref t,.int i 0]
theorem tup_kind {t it:Addr} {all:List SV} {us:List Value} {news₀:News1} (ht:(t,tupO us) ∈ news₀) (hv:VRs news₀ all us):ItKind W all (fun _=>True) it [] news₀ (TupIt t) where
  kind:=fun i o h=>kind_it (by decide) h.1 h.2
  item:=fun i sv c n m pr news s σ ρ ns sl io Q X hi a ok hI hm _ P k=>by
    have ht':=P _ _ ht
    have hT:s.heap.IsTuple t us.toArray:=⟨_,(a.N _ ht').1,rfl,0,rfl⟩
    obtain ⟨v,g1,g2⟩:=(hv.mono P).get hi
    refine wpAny_pyNext_tuple_item (it:=it) (t:=t) (i:=i) ⟨io,(a.N _ (a.R.pv _ hm)).1,hI.1,hI.2⟩ hT (x:=v) (by rw [← Array.getElem?_toList]; exact g1) fun h' hit hs=>?_
    obtain ⟨o',j1,j2,j3⟩:=hit
    exact k h' s.toks v o' g2 hs j1 ⟨j2,j3⟩
  stop:=fun c n m pr news s σ ρ ns sl io Q X a ok hI hm _ P k=>by
    have ht':=P _ _ ht
    have hT:s.heap.IsTuple t us.toArray:=⟨_,(a.N _ ht').1,rfl,0,rfl⟩
    exact wpAny_pyNext_tuple_end (it:=it) (t:=t) (i:=all.length) a.ok.hh ⟨io,(a.N _ (a.R.pv _ hm)).1,hI.1,hI.2⟩ hT (by rw [hv.len]; exact Array.getElem?_eq_none (Nat.le_of_eq (List.size_toArray ..))) k
theorem snd_forTup {e₁ e₂:Mine.E} {p q:PySem.Expr} {i k:Nat} {y:Str} {yp pp pos:Pos} {body:Mine.Ss} {pb:List Stmt} (hx:locOk ns sl i y = true) (h1:notStar p = true) (h2:notStar q = true) (i₁:SE W Γ c n ns sl e₁ p) (i₂:SE W Γ c n ns sl e₂ q) (ib:SndSs W Γ c n ns sl body pb) :
    SndS W Γ c n ns sl (.forTup i e₁ e₂ body) (.For (.Name y yp) (.Tuple [p,q] k pp) pb [] pos):=fun Q ρ σ s m priv pr news X h a=>by
  refine wpAny_For (Tuple_ (spliced_more ((i₁ m pr ρ).then a.at_ h fun h₁ t₁ n₁ sv₁ σ₁ v₁ a₁ P₁ V₁ q₁=>spliced_more ((i₂ m pr ρ).then a₁ q₁ fun h₂ t₂ n₂ sv₂ σ₂ v₂ a₂ P₂ V₂ q₂=>spliced_none ?_) (star_cons h2)) (star_cons h1)))
  refine newTuple_N a₂.F a₂.N (fun h₃ F₃ N₃=>?_) (by rw [sizeLine_eq]; simp)
  have a₃:=a₂.next (tk:=t₂) F₃ N₃ (a₂.R.push (o:=tupO [v₁,v₂]) (fun p hp=>Heap.lt_size (a₂.N p hp).1) tupO_inst) Per.cons
  have hT:h₃.IsTuple h₂.objs.size [v₁,v₂].toArray:=⟨_,(N₃ _ (.head _)).1,rfl,0,rfl⟩
  refine wpAny_pyIter_tuple hT ?_
  obtain ⟨b,hit⟩:=(a.next a₃).pushIt (tk:=t₂) (io:={ cls:=.type "tuple_iterator",data:=.fields #[.ref h₂.objs.size,.int 0 0] }) (kind_it (T:="tuple_iterator") (by decide) rfl rfl).2.1 rfl
  have K:=tup_kind (W:=W) (it:=h₃.objs.size) (t:=h₂.objs.size) (all:=[sv₁,sv₂]) (us:=[v₁,v₂]) (news₀:=(h₃.objs.size,{ cls:=.type "tuple_iterator",data:=.fields #[.ref h₂.objs.size,.int 0 0] }) :: (h₂.objs.size,tupO [v₁,v₂]) :: n₂) (.tail _ (.head _))
    ⟨((V₁.mono P₂).mono Per.cons).mono Per.cons,(V₂.mono Per.cons).mono Per.cons,trivial⟩
  refine codeAny_mono (for_loop (W:=W) (ex:=[]) hx ib _ _ K Q hit (fun _=>rfl) ⟨rfl,rfl⟩ trivial b q₂) fun r s' z=>?_
  cases r with
  | ok f=>exact PS.trans (((P₁.trans P₂).trans Per.cons).trans Per.cons) z
  | error e=>exact z.elim
noncomputable def RngIt (n:Nat) (i:Nat) (o:Obj):Prop:=o = { cls:=.type "range_iterator",data:=.fields #[rawInt i,rawInt ((n:Int) - i),rawInt 1] }
theorem rng_kind {it:Addr} {N:Nat} {news₀:News1}:ItKind W ((List.range N).map fun (i:Nat)=>SV.int (i:Int)) (fun _=>True) it [] news₀ (RngIt N) where
  kind:=fun i o h=>by subst h; exact kind_it (T:="range_iterator") (by decide) rfl rfl
  item:=fun i sv c n m pr news s σ ρ ns sl io Q X hi a ok hI hm _ P k=>by
    rw [List.getElem?_map] at hi
    obtain ⟨j,hj,rfl⟩:=Option.map_eq_some_iff.mp hi
    obtain ⟨hlt,rfl⟩:=List.getElem?_eq_some_iff.mp hj
    rw [List.length_range] at hlt
    rw [List.getElem_range] at *
    subst hI
    refine wpAny_pyNext_range_item (it:=it) (x:=i) (left:=(N:Int) - i) (step:=1) (a.N _ (a.R.pv _ hm)).1 (by omega) fun h' hit hs=>?_
    refine k h' (s.toks + 1) _ _ ⟨_,rfl⟩ hs hit ?_
    have e1:(N:Int) - i - 1 = (N:Int) - ((i + 1:Nat):Int):=by push_cast; omega
    have e2:(i:Int) + 1 = ((i + 1:Nat):Int):=by push_cast; rfl
    unfold RngIt
    rw [e1,e2]
  stop:=fun c n m pr news s σ ρ ns sl io Q X a ok hI hm _ P k=>by
    subst hI
    rw [List.length_map,List.length_range] at *
    exact wpAny_pyNext_range_end (it:=it) (x:=N) (left:=(N:Int) - N) (step:=1) a.ok.hh (a.N _ (a.R.pv _ hm)).1 (by omega) k
theorem snd_forRange (KF:W.Fns) {e:Mine.E} {p:PySem.Expr} {i:Nat} {x y:Str} {yp xp cp pos:Pos} {body:Mine.Ss} {pb:List Stmt} (hy:locOk ns sl i y = true) (hx:(x == ("range":Str)) = true) (hg:globOk ns x = true) (h1:notStar p = true) (ih:SE W Γ c n ns sl e p) (ib:SndSs W Γ c n ns sl body pb) :
    SndS W Γ c n ns sl (.forRange i e body) (.For (.Name y yp) (.Call (.Name x xp) [p] [] cp) pb [] pos):=fun Q ρ σ s m priv pr news X h a=>by
  obtain rfl:=beq_iff_eq.mp hx
  refine wpAny_For (Call_ (a.at_.bltn hg (KF.bi _ (by simp)) boot_range (by decide) (callWith_type1 (spliced_more ((ih m pr ρ).then a.at_ h fun h₁ t₁ n₁ sv σ₁ v a₁ P₁ V₁ q=>spliced_none ?_) (star_cons h1)) (star_cons h1) rfl)))
  obtain ⟨N,e1,hz0,hz,q⟩:=q
  obtain rfl:=asInt_some e1
  obtain ⟨t,rfl⟩:=V₁
  refine call_range_1 ?_
  have N₂:=News.push a₁.F a₁.N { cls:=.type "range",data:=.fields #[.int 0 t₁,.int N t,.int 1 (t₁ + 1)] }
  have a₂:=a₁.next (tk:=t₁ + 1 + 1) (a₁.F.push _) N₂ (a₁.R.push (fun p hp=>Heap.lt_size (a₁.N p hp).1) (kind_it (T:="range") (by decide) rfl rfl).2.1) Per.cons
  refine wpAny_pyIter_range (r:=h₁.objs.size) (a:=0) (b:=N) (c:=1) (N₂ _ (.head _)).1 (small_one (by omega) (by omega) (by omega) (by omega)) ?_
  rw [rangeSize_one]
  have eN:(if 0 < N then N - 0 else 0) = ((N.toNat:Nat):Int):=by split <;> omega
  rw [eN]
  obtain ⟨b,hit⟩:=(a.next a₂).pushIt (tk:=t₁ + 1 + 1) (io:={ cls:=.type "range_iterator",data:=.fields #[rawInt 0,rawInt N.toNat,rawInt 1] }) (kind_it (T:="range_iterator") (by decide) rfl rfl).2.1 rfl
  refine codeAny_mono (for_loop (W:=W) (ex:=[]) hy ib _ _ (rng_kind (N:=N.toNat)) Q hit (fun _=>rfl) (by unfold RngIt; simp) trivial b q) fun r s' z=>?_
  cases r with
  | ok f=>exact PS.trans ((P₁.trans Per.cons).trans Per.cons) z
  | error e=>exact z.elim
end
end Mine
end
section
open PySem PySem.W PyProof.Rows PySem.Calls
namespace Mine
set_option linter.unusedVariables false
noncomputable def pw {α:Type} (lt:Nat→Nat→Bool) (n:Nat):KasT α→(α→Prop)→Prop
  | .ret a,Q=>Q a
  | .ask i j k,Q=>i < n∧j < n∧pw lt n (k (lt i j)) Q
theorem pw_bind {α β:Type} {lt:Nat→Nat→Bool} {n:Nat} {f:α→KasT β} {Q:β→Prop}:∀ {t:KasT α},pw lt n t (fun a=>pw lt n (f a) Q)→pw lt n (t.bind f) Q
  | .ret _,h=>h
  | .ask i j k,h=>⟨h.1,h.2.1,pw_bind h.2.2⟩
theorem pw_mono {α:Type} {lt:Nat→Nat→Bool} {n:Nat} {Q Q':α→Prop} (hq:∀ a,Q a→Q' a):∀ {t:KasT α},pw lt n t Q→pw lt n t Q'
  | .ret _,h=>hq _ h
  | .ask i j k,h=>⟨h.1,h.2.1,pw_mono hq h.2.2⟩
theorem pw_wp {α:Type} {lt:Nat→Nat→Bool} {n:Nat} {cmp:Nat→Nat→(Bool→Shared→Prop)→Shared→Prop} {s:Shared} (hc:∀ (i j:Nat) (C:Bool→Shared→Prop),i < n→j < n→C (lt i j) s→cmp i j C s) {Q:α→Prop} :
    ∀ {t:KasT α},pw lt n t Q→t.kasWp cmp (fun a s'=>Q a∧s' = s) s
  | .ret _,h=>⟨h,rfl⟩
  | .ask i j k,h=>hc i j _ h.1 h.2.1 (pw_wp hc h.2.2)
section
variable {f:Nat→Int} {n:Nat}
noncomputable abbrev lt_ (f:Nat→Int):Nat→Nat→Bool:=fun i j=>decide (f i < f j)
noncomputable def FK (f:Nat→Int) (p:Array Nat) (k:Nat):Int:=f (p.getD k 0)
noncomputable def Perm_ (n:Nat) (p:Array Nat):Prop:=p.toList.Perm (List.range n)
noncomputable def Asc (f:Nat→Int) (p:Array Nat) (m:Nat):Prop:=∀ i j,i ≤ j→j < m→FK f p i ≤ FK f p j
noncomputable def Desc (f:Nat→Int) (p:Array Nat) (m:Nat):Prop:=∀ i j,i ≤ j→j < m→FK f p j ≤ FK f p i
theorem Perm_.size {p:Array Nat} (h:Perm_ n p):p.size = n:=by have:=h.length_eq; simpa using this
theorem getD_eq {p:Array Nat} {k:Nat} (h:k < p.size):p.getD k 0 = p[k]:=by simp [Array.getD,h]
theorem Perm_.lt {p:Array Nat} (h:Perm_ n p) {k:Nat} (hk:k < n):p.getD k 0 < n:=by
  have hk':k < p.size:=by rw [h.size]; exact hk
  rw [getD_eq hk']
  exact List.mem_range.mp (h.mem_iff.mp (by simp))
theorem Perm_.inj {p:Array Nat} (h:Perm_ n p) (hf:∀ i j,i < n→j < n→f i = f j→i = j) {i j:Nat} (hi:i < n) (hj:j < n) (e:FK f p i = FK f p j):i = j:=by
  have e1:=hf _ _ (h.lt hi) (h.lt hj) e
  have hi':i < p.size:=by rw [h.size]; exact hi
  have hj':j < p.size:=by rw [h.size]; exact hj
  rw [getD_eq hi',getD_eq hj'] at e1
  have nd:p.toList.Nodup:=h.nodup_iff.mpr List.nodup_range
  have:=List.getElem_inj (h₀:=by simpa using hi') (h₁:=by simpa using hj') nd (i:=i) (j:=j)
  exact this.mp (by simpa using e1)
theorem ar_a1 {m f n:Nat} (h:m + (f + 1) ≤ n):m < n:=Nat.lt_of_lt_of_le (Nat.lt_add_of_pos_right (Nat.succ_pos _)) h
theorem ar_a4 (m f:Nat):m + 1 + f = m + (f + 1):=by rw [Nat.add_assoc,Nat.add_comm 1]
theorem ar_a2 {m f n:Nat} (h:m + (f + 1) ≤ n):m + 1 + f ≤ n:=ar_a4 m f ▸ h
theorem ar_a3 {j k:Nat} (h:j < k + 1) (p:0 < j):j - 1 < k:=Nat.lt_of_lt_of_le (Nat.sub_lt p Nat.one_pos) (Nat.le_of_lt_succ h)
theorem ar_a5 {m n:Nat} (h:m ≤ n):m + (n - m) ≤ n:=Nat.le_of_eq (Nat.add_sub_of_le h)
theorem pw_asc {p:Array Nat} {Q:Nat→Prop} (hp:Perm_ n p):∀ (fuel m:Nat),1 ≤ m→m + fuel ≤ n→Asc f p m→(∀ m',m ≤ m'→m' ≤ m + fuel→Asc f p m'→(m' < m + fuel→FK f p m' < FK f p (m' - 1))→Q m')→pw (lt_ f) n (kas_asc p fuel m) Q
  | 0,m,h1,h2,ha,k=>k m (Nat.le_refl _) (Nat.le_refl _) ha fun h=>absurd h (Nat.lt_irrefl _)
  | fuel + 1,m,h1,h2,ha,k=>by
    refine ⟨hp.lt (ar_a1 h2),hp.lt (Nat.lt_of_le_of_lt (Nat.sub_le _ _) (ar_a1 h2)),?_⟩
    show pw (lt_ f) n (if decide (FK f p m < FK f p (m - 1)) = true then _ else _) Q
    by_cases c:FK f p m < FK f p (m - 1)
    · rw [if_pos (decide_eq_true c)]
      exact k m (Nat.le_refl _) (Nat.le_add_right _ _) ha fun _=>c
    · rw [if_neg (by simpa using c)]
      refine pw_asc hp fuel (m + 1) (Nat.succ_le_succ (Nat.zero_le _)) (ar_a2 h2) (fun i j hij hj=>?_) fun m' g1 g2 g3 g4=>k m' (Nat.le_of_succ_le g1) (ar_a4 m fuel ▸ g2) g3 fun h=>g4 (by rw [ar_a4]; exact h)
      by_cases q:j = m
      · subst q
        by_cases q2:i = j
        · rw [q2]; exact Int.le_refl _
        · exact Int.le_trans (ha i (j - 1) (Nat.le_sub_one_of_lt (Nat.lt_of_le_of_ne hij q2)) (Nat.sub_lt h1 Nat.one_pos)) (Int.not_lt.mp c)
      · exact ha i j hij (Nat.lt_of_le_of_ne (Nat.le_of_lt_succ hj) q)
theorem pw_desc {p:Array Nat} {Q:Array Nat × Nat × Nat→Prop} (hp:Perm_ n p) (hf:∀ i j,i < n→j < n→f i = f j→i = j):∀ (fuel m:Nat),1 ≤ m→m + fuel ≤ n→Desc f p m→(∀ m',m ≤ m'→m' ≤ m + fuel→Desc f p m'→Q (p,m',0))→pw (lt_ f) n (kas_desc fuel p m 0) Q
  | 0,m,h1,h2,ha,k=>k m (Nat.le_refl _) (Nat.le_refl _) ha
  | fuel + 1,m,h1,h2,ha,k=>by
    refine ⟨hp.lt (ar_a1 h2),hp.lt (Nat.lt_of_le_of_lt (Nat.sub_le _ _) (ar_a1 h2)),?_⟩
    show pw (lt_ f) n (if decide (FK f p m < FK f p (m - 1)) = true then _ else _) Q
    by_cases c:FK f p m < FK f p (m - 1)
    · rw [if_pos (decide_eq_true c),if_neg (Nat.lt_irrefl 0)]
      refine pw_desc hp hf fuel (m + 1) (Nat.succ_le_succ (Nat.zero_le _)) (ar_a2 h2) (fun i j hij hj=>?_) fun m' g1 g2 g3=>k m' (Nat.le_of_succ_le g1) (ar_a4 m fuel ▸ g2) g3
      by_cases q:j = m
      · subst q
        by_cases q2:i = j
        · rw [q2]; exact Int.le_refl _
        · exact Int.le_trans (Int.le_of_lt c) (ha i (j - 1) (Nat.le_sub_one_of_lt (Nat.lt_of_le_of_ne hij q2)) (Nat.sub_lt h1 Nat.one_pos))
      · exact ha i j hij (Nat.lt_of_le_of_ne (Nat.le_of_lt_succ hj) q)
    · rw [if_neg (by simpa using c)]
      have m1:=Nat.lt_of_le_of_lt (Nat.sub_le m 1) (ar_a1 h2)
      refine ⟨hp.lt m1,hp.lt (ar_a1 h2),?_⟩
      show pw (lt_ f) n (if decide (FK f p (m - 1) < FK f p m) = true then _ else _) Q
      have c2:FK f p (m - 1) < FK f p m:=by
        rcases Int.lt_trichotomy (FK f p (m - 1)) (FK f p m) with h | h | h
        · exact h
        · exact absurd (hp.inj hf m1 (ar_a1 h2) h) (Nat.ne_of_lt (Nat.sub_lt h1 Nat.one_pos))
        · exact absurd h c
      rw [if_pos (decide_eq_true c2)]
      exact k m (Nat.le_refl _) (Nat.le_add_right _ _) ha
theorem rev_at {p:Array Nat} {j:Nat} (hj:j ≤ p.size) (k:Nat):FK f (kas_rev p 0 j) k = if k < j then FK f p (j - 1 - k) else FK f p k:=by
  have e:=getElem?_mirror_all (xs:=p) (i:=0) (j:=j) hj k
  unfold FK kas_rev
  rw [Array.getD_eq_getD_getElem?,e]
  by_cases h:k < j
  · rw [if_pos ⟨Nat.zero_le _,h⟩,if_pos h,Array.getD_eq_getD_getElem?,Nat.zero_add]
  · rw [if_neg (fun q=>h q.2),if_neg h,Array.getD_eq_getD_getElem?]
theorem Perm_.rev {p:Array Nat} (h:Perm_ n p) (i j:Nat):Perm_ n (kas_rev p i j):=(Array.perm_iff_toList_perm.mp (mirror_perm _ _ _ _)).trans h
theorem Perm_.bub {p:Array Nat} (h:Perm_ n p) (i j:Nat):Perm_ n (bubble p i j):=(Array.perm_iff_toList_perm.mp (bubble_perm _ _ _)).trans h
theorem Desc.rev {p:Array Nat} {m:Nat} (hm:m ≤ p.size) (h:Desc f p m):Asc f (kas_rev p 0 m) m:=fun i j hij hj=>by
  rw [rev_at hm,rev_at hm,if_pos (Nat.lt_of_le_of_lt hij hj),if_pos hj]
  exact h _ _ (Nat.sub_le_sub_left hij _) (Nat.lt_of_le_of_lt (Nat.sub_le _ _) (Nat.sub_lt (Nat.lt_of_le_of_lt (Nat.zero_le _) hj) Nat.one_pos))
theorem pw_tail3 {p:Array Nat} {Q:Nat × Array Nat→Prop} {m:Nat} (hp:Perm_ n p) (h1:1 ≤ m) (hm:m ≤ n) (hd:Desc f p m) (k:∀ m' p',1 ≤ m'→m' ≤ n→Perm_ n p'→Asc f p' m'→Q (m',p')):pw (lt_ f) n (kas_tail3 m n p) Q:=by
  unfold kas_tail3
  refine pw_bind (pw_asc (hp.rev 0 m) _ _ h1 (ar_a5 hm) (hd.rev (by rw [hp.size]; exact hm)) fun m' g1 g2 g3 _=>?_)
  exact k m' _ (Nat.le_trans h1 g1) (Nat.le_trans g2 (ar_a5 hm)) (hp.rev 0 m) g3
theorem pw_descPart {p:Array Nat} {Q:Nat × Array Nat→Prop} {m:Nat} (hf:∀ i j,i < n→j < n→f i = f j→i = j) (hp:Perm_ n p) (hm:m + 1 ≤ n) (hd:Desc f p (m + 1)) (k:∀ m' p',1 ≤ m'→m' ≤ n→Perm_ n p'→Asc f p' m'→Q (m',p')):pw (lt_ f) n (kas_descPart m n p) Q:=by
  unfold kas_descPart
  refine pw_bind (pw_desc hp hf _ _ (Nat.succ_le_succ (Nat.zero_le _)) (ar_a5 hm) hd fun m' g1 g2 g3=>?_)
  rw [if_neg (Nat.lt_irrefl 0)]
  have e1:1 ≤ m':=Nat.le_trans (Nat.succ_le_succ (Nat.zero_le _)) g1
  have e2:m' ≤ n:=Nat.le_trans g2 (ar_a5 hm)
  exact pw_tail3 hp e1 e2 g3 k
theorem asc_one {p:Array Nat}:Asc f p 1:=fun i j hij hj=>by
  have:i = j:=Nat.le_antisymm hij (Nat.le_trans (Nat.le_of_lt_succ hj) (Nat.zero_le _))
  rw [this]
  exact Int.le_refl _
theorem pw_count {p:Array Nat} {Q:Nat × Array Nat→Prop} (hf:∀ i j,i < n→j < n→f i = f j→i = j) (hp:Perm_ n p) (h2:2 ≤ n) (k:∀ m' p',1 ≤ m'→m' ≤ n→Perm_ n p'→Asc f p' m'→Q (m',p')):pw (lt_ f) n (kas_count n p) Q:=by
  unfold kas_count
  have n1:=Nat.le_of_succ_le h2
  refine pw_bind (pw_asc hp _ _ (Nat.le_refl _) (ar_a5 n1) asc_one fun m g1 g2 g3 g4=>?_)
  have mn:=Nat.le_trans g2 (ar_a5 n1)
  by_cases q:m = n
  · rw [if_pos (by simpa using q)]
    exact k _ _ g1 mn hp g3
  · rw [if_neg (by simpa using q)]
    by_cases q1:m > 1
    · rw [if_pos q1]
      have m1:=Nat.lt_of_lt_of_le (Nat.sub_lt g1 Nat.one_pos) mn
      have n0:=Nat.lt_of_lt_of_le Nat.two_pos h2
      refine ⟨hp.lt n0,hp.lt m1,?_⟩
      show pw (lt_ f) n (if decide (FK f p 0 < FK f p (m - 1)) = true then _ else _) Q
      have c:FK f p 0 < FK f p (m - 1):=by
        have:=g3 0 (m - 1) (Nat.zero_le _) (Nat.sub_lt g1 Nat.one_pos)
        rcases Int.lt_or_eq_of_le this with h | h
        · exact h
        · exact absurd (hp.inj hf n0 m1 h) (Nat.ne_of_lt (Nat.sub_pos_of_lt q1))
      rw [if_pos (decide_eq_true c)]
      exact k _ _ g1 mn hp g3
    · rw [if_neg q1]
      have e:m = 1:=Nat.le_antisymm (Nat.le_of_not_lt q1) g1
      subst e
      refine pw_descPart hf hp h2 (fun i j hij hj=>?_) k
      by_cases e:i = j
      · rw [e]; exact Int.le_refl _
      · have lt:=Nat.lt_of_le_of_ne hij e
        have e1:i = 0:=Nat.le_zero.mp (Nat.le_of_lt_succ (Nat.lt_of_lt_of_le lt (Nat.le_of_lt_succ hj)))
        have e2:j = 1:=Nat.le_antisymm (Nat.le_of_lt_succ hj) (Nat.lt_of_le_of_lt (Nat.zero_le _) lt)
        subst e1 e2
        exact Int.le_of_lt (g4 (Nat.lt_add_of_pos_right (Nat.sub_pos_of_lt h2)))
theorem pw_place {p:Array Nat} {k:Nat} {Q:Nat→Prop} (hp:Perm_ n p) (hk:k < n) (ha:Asc f p k) (z:∀ l,l ≤ k→(∀ i,i < l→FK f p i ≤ FK f p k)→(∀ i,l ≤ i→i < k→FK f p k ≤ FK f p i)→Q l) :
    ∀ (fuel l r:Nat),r - l ≤ fuel→l ≤ r→r ≤ k→(∀ i,i < l→FK f p i ≤ FK f p k)→(∀ i,r ≤ i→i < k→FK f p k ≤ FK f p i)→pw (lt_ f) n (kas_place p k fuel l r) Q
  | 0,l,r,h0,h1,h2,h3,h4=>z l (Nat.le_trans h1 h2) h3 fun i hi=>h4 i (Nat.le_trans (Nat.le_of_sub_eq_zero (Nat.le_zero.mp h0)) hi)
  | fuel + 1,l,r,h0,h1,h2,h3,h4=>by
    unfold kas_place
    by_cases q:l ≥ r
    · rw [if_pos q]
      exact z l (Nat.le_trans h1 h2) h3 fun i hi=>h4 i (Nat.le_trans q hi)
    · rw [if_neg q]
      have hm1:(l + r) / 2 < r:=by omega
      have hm2:l ≤ (l + r) / 2:=by omega
      generalize (l + r) / 2 = mid at *
      refine ⟨hp.lt hk,hp.lt (Nat.lt_trans (Nat.lt_of_lt_of_le hm1 h2) hk),?_⟩
      show pw (lt_ f) n (if decide (FK f p k < FK f p mid) = true then _ else _) Q
      by_cases c:FK f p k < FK f p mid
      · rw [if_pos (decide_eq_true c)]
        exact pw_place hp hk ha z fuel l mid (Nat.le_of_lt_succ (Nat.lt_of_lt_of_le (Nat.sub_lt_sub_right hm2 hm1) h0)) hm2 (Nat.le_of_lt (Nat.lt_of_lt_of_le hm1 h2)) h3 fun i g1 g2=>Int.le_trans (Int.le_of_lt c) (ha mid i g1 g2)
      · rw [if_neg (by simpa using c)]
        refine pw_place hp hk ha z fuel (mid + 1) r (by omega) hm1 h2 (fun i g1=>?_) h4
        exact Int.le_trans (ha i mid (Nat.le_of_lt_succ g1) (Nat.lt_of_lt_of_le hm1 h2)) (Int.not_lt.mp c)
theorem bub_at {p:Array Nat} {k l:Nat} (hk:k < p.size) (hl:l ≤ k) (i:Nat):FK f (bubble p k (k - l)) i = if i = l then FK f p k else if l < i∧i ≤ k then FK f p (i - 1) else FK f p i:=by
  have e:=getElem?_bubble (xs:=p) hk (k - l) (Nat.sub_le _ _) i
  have e1:k - (k - l) = l:=Nat.sub_sub_self hl
  rw [e1] at e
  unfold FK
  rw [Array.getD_eq_getD_getElem?,e]
  by_cases h:i = l
  · rw [if_pos h,if_pos h,Array.getD_eq_getD_getElem?]
  · rw [if_neg h,if_neg h]
    by_cases h':l < i∧i ≤ k
    · rw [if_pos h',if_pos h',Array.getD_eq_getD_getElem?]
    · rw [if_neg h',if_neg h',Array.getD_eq_getD_getElem?]
theorem pw_bin {Q:Array Nat→Prop} (z:∀ p,Perm_ n p→Asc f p n→Q p):∀ (fuel:Nat) (p:Array Nat) (k:Nat),k + fuel = n→Perm_ n p→Asc f p k→pw (lt_ f) n (kas_bin fuel p k) Q
  | 0,p,k,h,hp,ha=>z p hp (by rw [Nat.add_zero] at h; rw [← h]; exact ha)
  | fuel + 1,p,k,h,hp,ha=>by
    have hk:k < n:=ar_a1 (Nat.le_of_eq h)
    refine pw_bind (pw_place hp hk ha (fun l g1 g2 g3=>?_) k 0 k (Nat.sub_le _ _) (Nat.zero_le _) (Nat.le_refl _) (fun i hi=>absurd hi (Nat.not_lt_zero _)) fun i g1 g2=>absurd g2 (Nat.not_lt_of_le g1))
    refine pw_bin z fuel _ (k + 1) ((ar_a4 k fuel).trans h) (hp.bub _ _) fun i j hij hj=>?_
    have jk:=Nat.le_of_lt_succ hj
    have hs:k < p.size:=by rw [hp.size]; exact hk
    rw [bub_at hs g1,bub_at hs g1]
    have A:∀ i j,i ≤ j→j < k→FK f p i ≤ FK f p j:=ha
    by_cases a1:i = l
    · rw [if_pos a1]
      by_cases b1:j = l
      · rw [if_pos b1]; exact Int.le_refl _
      · have lj:l < j:=Nat.lt_of_le_of_ne (a1 ▸ hij) (Ne.symm b1)
        rw [if_neg b1,if_pos ⟨lj,jk⟩]
        exact g3 _ (Nat.le_sub_one_of_lt lj) (ar_a3 hj (Nat.lt_of_le_of_lt (Nat.zero_le _) lj))
    · rw [if_neg a1]
      by_cases b1:j = l
      · have il:i ≤ l:=b1 ▸ hij
        rw [if_pos b1,if_neg fun h=>Nat.not_lt_of_le il h.1]
        exact g2 _ (Nat.lt_of_le_of_ne il a1)
      · rw [if_neg b1]
        by_cases a2:l < i∧i ≤ k
        · have lj:=Nat.lt_of_lt_of_le a2.1 hij
          rw [if_pos a2,if_pos ⟨lj,jk⟩]
          exact A _ _ (Nat.sub_le_sub_right hij 1) (ar_a3 hj (Nat.lt_of_le_of_lt (Nat.zero_le _) lj))
        · rw [if_neg a2]
          have il:i < l:=Nat.lt_of_le_of_ne (Nat.le_of_not_lt fun h=>a2 ⟨h,Nat.le_trans hij jk⟩) a1
          by_cases b2:l < j∧j ≤ k
          · rw [if_pos b2]
            exact A _ _ (Nat.le_sub_one_of_lt (Nat.lt_trans il b2.1)) (ar_a3 hj (Nat.lt_of_le_of_lt (Nat.zero_le _) b2.1))
          · rw [if_neg b2]
            exact A _ _ hij (Nat.lt_of_lt_of_le (Nat.lt_of_le_of_ne (Nat.le_of_not_lt fun h=>b2 ⟨h,jk⟩) b1) g1)
theorem pw_sort {Q:Array Nat→Prop} (hf:∀ i j,i < n→j < n→f i = f j→i = j) (h2:2 ≤ n) (z:∀ p,Perm_ n p→Asc f p n→Q p):pw (lt_ f) n (kas_sort n) Q:=by
  unfold kas_sort
  have hp0:Perm_ n (List.toArray (List.range n)):=by show (List.toArray (List.range n)).toList.Perm _; exact .refl _
  refine pw_bind (pw_count hf hp0 h2 fun m p g1 g2 g3 g4=>?_)
  by_cases q:m < n
  · rw [if_pos q]
    have e:max m 1 = m:=Nat.max_eq_left g1
    rw [e]
    exact pw_bin z _ _ _ (Nat.add_sub_of_le (Nat.le_of_lt q)) g3 g4
  · rw [if_neg q]
    have e:m = n:=Nat.le_antisymm g2 (Nat.le_of_not_lt q)
    exact z p g3 (by rw [← e]; exact g4)
end
end Mine
end
section
open PySem PySem.W PyProof.Rows PySem.Calls PySem.Spec
namespace Mine
set_option linter.unusedVariables false
section
variable {W:Wld} {c:Cfg} {n:Nat} {m:Str→Option Value} {priv news:News1} {s:Shared} {X:Value→Shared→Prop} {σ:Hp} {ρ:Lc} {ns:Nms} {sl:Sls} {Γ:Cal}
theorem intsOf_some:∀ {vs:List SV} {is:List Int},intsOf vs = some is→vs = is.map .int
  | [],is,h=>by cases h; rfl
  | v :: r,is,h=>by
    obtain ⟨i,e1,h⟩:=Option.bind_eq_some_iff.mp h
    obtain ⟨js,e2,rfl⟩:=Option.map_eq_some_iff.mp h
    rw [asInt_some e1,intsOf_some e2]
    rfl
theorem asTri_some {v:SV} {t:Int × Int × Int} (h:v.asTri = some t):v = triV t:=by
  cases v <;> cases h
  rfl
theorem trisOf_some:∀ {vs:List SV} {ts:List (Int × Int × Int)},trisOf vs = some ts→vs = ts.map triV
  | [],is,h=>by cases h; rfl
  | v :: r,is,h=>by
    obtain ⟨i,e1,h⟩:=Option.bind_eq_some_iff.mp h
    obtain ⟨js,e2,rfl⟩:=Option.map_eq_some_iff.mp h
    rw [asTri_some e1,trisOf_some e2]
    rfl
noncomputable def toD:SV→Dat
  | .int i=>.int i
  | .tri i j k=>.tuple [.int i,.int j,.int k]
  | _=>.none
noncomputable def flat1:SV→Bool
  | .int _=>true
  | .tri ..=>true
  | _=>false
theorem flat_all {vs:List SV} (h:flat vs = true):∀ v ∈ vs,flat1 v = true:=by
  unfold flat at h
  rw [Bool.or_eq_true] at h
  rcases h with h | h
  · obtain ⟨is,h⟩:=Option.isSome_iff_exists.mp h
    rw [intsOf_some h]
    intro v hv
    obtain ⟨i,_,rfl⟩:=List.mem_map.mp hv
    rfl
  · obtain ⟨is,h⟩:=Option.isSome_iff_exists.mp h
    rw [trisOf_some h]
    intro v hv
    obtain ⟨i,_,rfl⟩:=List.mem_map.mp hv
    rfl
theorem toD_ok {v:SV}:kqdOk 8 (toD v) = true:=by cases v <;> simp [toD,kqdOk]
theorem toD_inj {v w:SV} (h1:flat1 v = true) (h2:flat1 w = true) (h:toD v = toD w):v = w:=by
  cases v <;> cases w <;> first | (cases h1; done) | (cases h2; done) | (cases h; done) | skip
  · cases h; rfl
  · cases h; rfl
theorem toDs_inj:∀ {vs ws:List SV},(∀ v ∈ vs,flat1 v = true)→(∀ v ∈ ws,flat1 v = true)→vs.map toD = ws.map toD→vs = ws
  | [],[],_,_,_=>rfl
  | [],_ :: _,_,_,h=>by cases h
  | _ :: _,[],_,_,h=>by cases h
  | v :: vs,w :: ws,h1,h2,h=>by
    rw [List.map_cons,List.map_cons,List.cons.injEq] at h
    rw [toD_inj (h1 _ (.head _)) (h2 _ (.head _)) h.1,toDs_inj (fun x hx=>h1 x (.tail _ hx)) (fun x hx=>h2 x (.tail _ hx)) h.2]
theorem datIn {v:SV} {u:Value} (hv:VR news v u) (h:flat1 v = true):DatIn news u (toD v):=by
  cases v <;> first | (cases h; done) | skip
  · obtain ⟨t,rfl⟩:=hv; exact .int _ _
  · obtain ⟨a,t1,t2,t3,rfl,hm⟩:=hv
    exact .tuple (n:=0) hm (.cons (.int _ _) (.cons (.int _ _) (.cons (.int _ _) .nil)))
theorem datAll:∀ {vs:List SV} {us:List Value},VRs news vs us→(∀ v ∈ vs,flat1 v = true)→DatAll news us (vs.map toD)
  | [],[],_,_=>.nil
  | [],_ :: _,h,_=>h.elim
  | _ :: _,[],h,_=>h.elim
  | v :: vs,u :: us,⟨h0,h⟩,hf=>.cons (datIn h0 (hf _ (.head _))) (datAll h fun x hx=>hf x (.tail _ hx))
open Classical in
theorem step_eqL {neg:Bool}:CmpStep W c n m priv ρ ns sl (if neg then .NotEq else .Eq) (fun v w σ Q=>on (listAt σ v) fun vs=>on (listAt σ w) fun ws=>flat vs = true∧flat ws = true∧Q (.bool (neg != decide (vs = ws))) σ):=fun Q σ s news X sv sw v u V V' a q=>by
  obtain ⟨vs,e1,ws,e2,f1,f2,q⟩:=q
  obtain ⟨l,rfl,g1⟩:=listAt_some e1
  obtain ⟨l',rfl,g2⟩:=listAt_some e2
  cases V
  cases V'
  obtain ⟨its,k,i1,i2,i3⟩:=a.list g1
  obtain ⟨its',k',j1,j2,j3⟩:=a.list g2
  have h1:=flat_all f1
  have h2:=flat_all f2
  have hok:∀ vs:List SV,∀ d ∈ vs.map toD,kqdOk 8 d = true:=fun vs d hd=>by
    obtain ⟨v,_,rfl⟩:=List.mem_map.mp hd
    exact toD_ok
  have hu:c.A.units + 64 < cLine:=by
    have:=a.ok.hu
    rw [cLine_is]
    omega
  have hiff:(vs.map toD = ws.map toD) ↔ vs = ws:=⟨fun h=>toDs_inj h1 h2 h,fun h=>by rw [h]⟩
  have fin:∀ b,(neg != decide (vs = ws)) = b→PE W c m priv s news Q (.bool b) s:=fun b e=>by subst e; exact a.end (VR.bool _) q
  cases neg
  · refine kqd_eq (n₁:=news) (n₂:=news) a.N i1 rfl (by rw [Array.toArray_toList]) (datAll i2 h1) (fun _ h=>h) j1 rfl (by rw [Array.toArray_toList]) (datAll j2 h2) (fun _ h=>h) (hok _) (hok _) hu (fin _ ?_)
    by_cases h:vs = ws
    · rw [decide_eq_true h,decide_eq_true (hiff.mpr h)]; rfl
    · rw [decide_eq_false h,decide_eq_false (fun q=>h (hiff.mp q))]; rfl
  · refine kqd_ne (n₁:=news) (n₂:=news) a.N i1 rfl (by rw [Array.toArray_toList]) (datAll i2 h1) (fun _ h=>h) j1 rfl (by rw [Array.toArray_toList]) (datAll j2 h2) (fun _ h=>h) (hok _) (hok _) hu (fin _ ?_)
    by_cases h:vs = ws
    · rw [decide_eq_true h,decide_eq_true (hiff.mpr h)]; rfl
    · rw [decide_eq_false h,decide_eq_false (fun q=>h (hiff.mp q))]; rfl
theorem VRs.ints:∀ {is:List Int} {us:List Value},VRs news (is.map .int) us→IntsAre us is
  | [],[],_=>.nil
  | [],_ :: _,h=>h.elim
  | _ :: _,[],h=>h.elim
  | i :: is,u :: us,⟨h0,h⟩=>by
    obtain ⟨t,rfl⟩:=h0
    exact .cons i t (VRs.ints h)
theorem VRs.of_ints:∀ {is:List Int} {us:List Value},IntsAre us is→VRs news (is.map .int) us:=fun h=>by
  induction h with
  | nil=>trivial
  | cons n t _ ih=>exact ⟨⟨t,rfl⟩,ih⟩
theorem sorted_short {prog:Program} {w:World} {A:Around} {E:Value→Shared→Prop} {h₀:Heap} {L:Addr} {l:Addr} {vs:List Value} {Q:Value→Shared→Prop} (F:Fr h₀ L s.heap m) (N:News h₀ L s.heap news)
    (hl:s.heap.IsList l vs.toArray) (h2:vs.length < 2)
    (h:∀ (h':Heap) (e:Nat),Fr h₀ L h' m→News h₀ L h' ((s.heap.objs.size + 1,seqObj "list" vs.toArray e) :: news)→Q (.ref (s.heap.objs.size + 1)) { s with heap:=h' }) :
    wpAny (model prog w) A (call (.builtin "sorted") [.ref l]) Q E s:=by
  refine Calls.call_function_entry kind_sorted plain_sorted entry_sorted (args_sorted1 _) ?_
  unfold Builtin.«sorted»
  refine wpAny_bind (m:=checkCount "sorted" 1 1 _) (wpAny_pure ?_)
  refine wpAny_bind (collect_list hl ?_ (by rw [sizeLine_eq]; omega))
  refine wpAny_bind (wpAny_newList ?_ (by rw [sizeLine_eq]; omega))
  have hsz:((s.heap.push (seqObj "list" #[] 0)).update s.heap.objs.size (Obj.mapSeq (· ++ vs.toArray))).objs.size = s.heap.objs.size + 1:=by
    rw [Heap.size_update,size_push']
  have hoL:(((s.heap.push (seqObj "list" #[] 0)).update s.heap.objs.size (Obj.mapSeq (· ++ vs.toArray))).push (seqObj "list" vs.toArray 0)).get? (s.heap.objs.size + 1) = some (seqObj "list" vs.toArray 0):=by
    rw [← hsz]; exact Heap.get?_push_size _ rfl
  obtain ⟨e,he⟩:=sortedAll_at s.heap vs vs.toArray
  have fin:=h _ e (F.kept fun _ _=>sortedAll_old) (N.kept_cons F (fun _ _=>sortedAll_old) (Nat.le_succ _) he)
  unfold sortedAll at fin
  show wpAny _ _ _ _ _ { s with heap:=((s.heap.push (seqObj "list" #[] 0)).update s.heap.objs.size (Obj.mapSeq (· ++ vs.toArray))).push (seqObj "list" vs.toArray 0) }
  rw [hsz]
  generalize hH:(((s.heap.push (seqObj "list" #[] 0)).update s.heap.objs.size (Obj.mapSeq (· ++ vs.toArray))).push (seqObj "list" vs.toArray 0)) = H at hoL fin ⊢
  refine wpAny_bind (wpAny_holding (wpAny_call_entry slot_list_sort ⟨_,hoL,rfl⟩ entry_list_sort ?body (args_list_sort _)))
  case body =>
    rw [list_sort_plain]
    generalize s.heap.objs.size + 1 = a at hoL fin ⊢
    have ha:a < H.objs.size:=Heap.lt_size hoL
    refine wpAny_bind (listItems_at hoL rfl ?_)
    refine wpAny_bind (listUpdate_at hoL rfl ?_ (by rw [List.size_toArray,sizeLine_eq]; omega) (Nat.zero_le _))
    obtain ⟨e1,ho1⟩:∃ e1,(H.update a (Obj.mapSeq fun _=>(#[]:Array Value))).get? a = some (seqObj "list" #[] e1):=⟨_,get?_update_seq hoL (fun _=>#[])⟩
    refine wpAny_bind (seqEpoch_at ho1 rfl ?_)
    refine wpAny_bind (wpAny_newTuple ?_ (by show vs.length ≤ _; rw [sizeLine_eq]; omega))
    refine wpAny_bind (wpAny_newList ?_ (Nat.zero_le _))
    refine wpAny_holding ?_
    have ho6:(((H.update a (Obj.mapSeq fun _=>(#[]:Array Value))).push (seqObj "tuple" vs.toArray 0)).push (seqObj "list" #[] 0)).get? a = some (seqObj "list" #[] e1):=by
      rw [Heap.get?_push_ne _ _ _ (by rw [size_push',Heap.size_update]; exact Nat.ne_of_lt (Nat.lt_succ_of_lt ha)),Heap.get?_push_ne _ _ _ (by rw [Heap.size_update]; exact Nat.ne_of_lt ha)]
      exact ho1
    show wpAny (model prog w) _ _ _ _ { s with heap:=((H.update a (Obj.mapSeq fun _=>(#[]:Array Value))).push (seqObj "tuple" vs.toArray 0)).push (seqObj "list" #[] 0) }
    dsimp only
    have hs2:vs.toArray.size < 2:=by rw [List.size_toArray]; exact h2
    rw [if_pos hs2,if_pos hs2]
    refine wpAny_bind (wpAny_pure ?_)
    rw [StateT.run_pure]
    refine wpAny_bind (wpAny_pure ?_)
    dsimp only
    have hout:(arrOf (SortSt.mk' general' (vs.toArray.zip vs.toArray) #[] 7 none)).map (·.2) = vs.toArray:=by
      show (vs.toArray.zip vs.toArray).map (·.2) = vs.toArray
      apply Array.toList_inj.mp
      simp [List.map_snd_zip]
    rw [hout]
    refine wpAny_bind (seqEpoch_at ho6 rfl ?_)
    refine wpAny_bind (listUpdate_at ho6 rfl ?_ (Nat.zero_le _) (by rw [List.size_toArray,sizeLine_eq]; omega))
    show wpAny _ _ (if (e1 != e1) = true then _ else _) _ _ _
    simp only [bne_self_eq_false,Bool.false_eq_true,if_false]
    refine wpAny_pure ⟨_,rfl,wpAny_pure ⟨_,rfl,?_⟩⟩
    exact fin
theorem VRs.tris:∀ {ts:List (Int × Int × Int)} {us:List Value},VRs news (ts.map triV) us→∀ i (hi:i < ts.length),∃ a t₁ t₂ t₃,us[i]? = some (.ref a)∧(a,tupO [.int ts[i].1 t₁,.int ts[i].2.1 t₂,.int ts[i].2.2 t₃]) ∈ news
  | [],_,_,_,hi=>absurd hi (Nat.not_lt_zero _)
  | _ :: _,[],h,_,_=>h.elim
  | _ :: _,_ :: _,h,0,_=>by
    obtain ⟨a,t₁,t₂,t₃,e,hm⟩:=h.1
    exact ⟨a,t₁,t₂,t₃,by rw [e]; rfl,hm⟩
  | _ :: _,_ :: _,h,i + 1,hi=>by
    replace h:=h.2
    obtain ⟨a,t₁,t₂,t₃,g1,g2⟩:=VRs.tris h i (Nat.lt_of_succ_lt_succ hi)
    exact ⟨a,t₁,t₂,t₃,by simpa using g1,by simpa using g2⟩
theorem VRs.katTups {h₀ h:Heap} {L:Addr} (N:News h₀ L h news):∀ {ts:List (Int × Int × Int)} {us:List Value},VRs news (ts.map triV) us→∃ fs,KatTups h us fs∧fs.length = ts.length∧∀ v ∈ fs,∃ i t,v = .int i t
  | [],[],_=>⟨[],trivial,rfl,fun _ h=>nomatch h⟩
  | [],_ :: _,h=>h.elim
  | _ :: _,[],h=>h.elim
  | t :: ts,u :: us,h=>by
    obtain ⟨⟨a,t₁,t₂,t₃,e,hm⟩,h⟩:=h
    obtain ⟨fs,g1,g2,g3⟩:=VRs.katTups N h
    subst e
    refine ⟨.int t.1 t₁ :: fs,KatTups.cons (N _ hm).1 rfl rfl rfl g1,by rw [List.length_cons,List.length_cons,g2],fun v hv=>?_⟩
    rcases List.mem_cons.mp hv with rfl | hv
    · exact ⟨_,_,rfl⟩
    · exact g3 v hv
theorem sorted_tris {prog:Program} {w:World} {A:Around} {E:Value→Shared→Prop} {h₀:Heap} {L:Addr} {l k:Nat} {ts:List (Int × Int × Int)} {us:List Value} {Q:Value→Shared→Prop} (F:Fr h₀ L s.heap m) (N:News h₀ L s.heap news)
    (hm:(l,listOf us.toArray k) ∈ news) (hv:VRs news (ts.map triV) us) (h64:ts.length < 64) (nd:(ts.map (·.1)).Nodup)
    (h:∀ (D:Addr) (h':Heap) (ws:List (Int × Int × Int)) (us':List Value) (e:Nat),Fr h₀ L h' m→News h₀ L h' ((D,listOf us'.toArray e) :: news)→(∀ q ∈ news,q.1 < D)→VRs news (ws.map triV) us'→isPermSortedT ws ts→Q (.ref D) { s with heap:=h' }) :
    wpAny (model prog w) A (call (.builtin "sorted") [.ref l]) Q E s:=by
  have hl:s.heap.IsList l us.toArray:=⟨_,(N _ hm).1,rfl,k,rfl⟩
  have hlen:us.length = ts.length:=by rw [← hv.len,List.length_map]
  by_cases h2:us.length < 2
  · refine sorted_short F N hl h2 fun h' e F' N'=>h _ h' ts us e F' N' (fun q hq=>Nat.lt_succ_of_lt (Heap.lt_size (N q hq).1)) hv ⟨.refl _,?_⟩
    match ts,hlen,h2 with
    | [],_,_=>exact .nil
    | [_],_,_=>exact List.pairwise_singleton _ _
    | _ :: _ :: _,hlen,h2=>simp at hlen; omega
  · refine kat_sorted F N hl (by omega) (by omega) fun D e1 h' F' N' hD=>?_
    have N0:News h₀ L h' news:=fun p hp=>N' p (.tail _ hp)
    obtain ⟨fs,g1,g2,g3⟩:=hv.katTups N0
    refine kat_kind (T:=.type "int") (fs:=fs) g1 (by omega) (fun v hv'=>?_) rfl ?_
    · obtain ⟨i,t,rfl⟩:=g3 v hv'
      exact Looks.of_pure rfl
    · have lt:∀ (i j:Nat) (C:Bool→Shared→Prop),i < us.length→j < us.length→C (lt_ (fun i=>(ts.getD i (0,0,0)).1) i j) { s with heap:=h' }→kas_ask prog w A.in1.in1 (tuples' (Value.type "int" != Value.type "tuple")) us i j C { s with heap:=h' }:=fun i j C hi hj q=>by
        obtain ⟨a,t₁,t₂,t₃,u1,u2⟩:=hv.tris i (by omega)
        obtain ⟨b,r₁,r₂,r₃,w1,w2⟩:=hv.tris j (by omega)
        unfold kas_ask
        have ei:us.getD i Value.none = .ref a:=by rw [List.getD_eq_getElem?_getD,u1]; rfl
        have ej:us.getD j Value.none = .ref b:=by rw [List.getD_eq_getElem?_getD,w1]; rfl
        rw [ei,ej]
        have q':C (decide (ts[i].1 < ts[j].1)) { s with heap:=h' }:=by
          have e1:ts.getD i (0,0,0) = ts[i]:=by rw [List.getD_eq_getElem?_getD,List.getElem?_eq_getElem (by omega)]; rfl
          have e2:ts.getD j (0,0,0) = ts[j]:=by rw [List.getD_eq_getElem?_getD,List.getElem?_eq_getElem (by omega)]; rfl
          show C (decide (_ < _)) _
          rw [← e1,← e2]
          exact q
        refine kat_lt (N0 _ u2).1 rfl (N0 _ w2).1 rfl ?_
        show KatLex prog w A.in1.in1 true false C [(.int _ _,.int _ _),(.int _ _,.int _ _),(.int _ _,.int _ _)] 0 _
        refine kat_cons (wpAny_eqBool_int ?_)
        by_cases e:ts[i].1 = ts[j].1
        · have eij:i = j:=by
            have h1:i < (ts.map (·.1)).length:=by rw [List.length_map]; omega
            have h2:j < (ts.map (·.1)).length:=by rw [List.length_map]; omega
            refine (List.getElem_inj (h₀:=h1) (h₁:=h2) nd).mp ?_
            rw [List.getElem_map,List.getElem_map]
            exact e
          subst eij
          simp only [beq_self_eq_true]
          refine kat_yes (kat_cons (wpAny_eqBool_int ?_))
          simp only [beq_self_eq_true]
          refine kat_yes (kat_cons (wpAny_eqBool_int ?_))
          simp only [beq_self_eq_true]
          refine kat_yes (kat_nil ?_)
          rw [decide_eq_false (Int.lt_irrefl _)] at q'
          exact q'
        · rw [beq_false_of_ne e]
          exact kat_no (oneLt_int q')
      have inj:∀ i j,i < us.length→j < us.length→(ts.getD i (0,0,0)).1 = (ts.getD j (0,0,0)).1→i = j:=fun i j hi hj e=>by
        have h1:i < (ts.map (·.1)).length:=by rw [List.length_map]; omega
        have h2:j < (ts.map (·.1)).length:=by rw [List.length_map]; omega
        refine (List.getElem_inj (h₀:=h1) (h₁:=h2) nd).mp ?_
        rw [List.getElem_map,List.getElem_map]
        have e1:ts.getD i (0,0,0) = ts[i]:=by rw [List.getD_eq_getElem?_getD,List.getElem?_eq_getElem (by omega)]; rfl
        have e2:ts.getD j (0,0,0) = ts[j]:=by rw [List.getD_eq_getElem?_getD,List.getElem?_eq_getElem (by omega)]; rfl
        rw [e1,e2] at e
        exact e
      rw [kat_ask_eq (vs:=us) rfl] at lt ⊢
      refine kas_wp_mono (pw_wp lt (pw_sort (Q:=fun p=>Perm_ us.length p∧Asc (fun i=>(ts.getD i (0,0,0)).1) p us.length) inj (by omega) fun p hp ha=>⟨hp,ha⟩)) ?_
      rintro p s' ⟨⟨hp,ha⟩,rfl⟩
      refine KasFin.intro F' N' (.head fun q hq=>Nat.ne_of_lt (hD q hq)) fun h'' c F'' N''=>?_
      refine h D h'' (p.toList.map fun i=>ts.getD i (0,0,0)) _ c F'' N'' hD ?_ ⟨?_,?_⟩
      · have:∀ (is:List Nat),(∀ i ∈ is,i < us.length)→VRs news ((is.map fun i=>ts.getD i (0,0,0)).map triV) (is.map fun i=>us.getD i Value.none):=by
          intro is
          induction is with
          | nil=>intro _; trivial
          | cons i is ih =>
            intro hi
            refine ⟨?_,ih fun x hx=>hi x (.tail _ hx)⟩
            have hi':=hi i (.head _)
            obtain ⟨a,t₁,t₂,t₃,u1,u2⟩:=hv.tris i (by omega)
            have e1:ts.getD i (0,0,0) = ts[i]'(by omega):=by rw [List.getD_eq_getElem?_getD,List.getElem?_eq_getElem (by omega)]; rfl
            have ei:us.getD i Value.none = .ref a:=by rw [List.getD_eq_getElem?_getD,u1]; rfl
            show VR news (triV (ts.getD i (0,0,0))) (us.getD i Value.none)
            rw [e1,ei]
            exact ⟨a,t₁,t₂,t₃,rfl,u2⟩
        exact this p.toList fun i hi=>List.mem_range.mp (hp.mem_iff.mp hi)
      · have e:(List.range us.length).map (fun i=>ts.getD i (0,0,0)) = ts:=by
          rw [hlen]
          refine List.ext_getElem (by simp) fun i h1 h2=>?_
          rw [List.getElem_map,List.getElem_range,List.getD_eq_getElem?_getD,List.getElem?_eq_getElem h2]
          rfl
        have:=hp.map fun i=>ts.getD i (0,0,0)
        rw [e] at this
        exact this
      · rw [List.pairwise_iff_getElem]
        intro i j hi hj hij
        have hi':i < us.length:=by rw [List.length_map,Array.length_toList,hp.size] at hi; exact hi
        have hj':j < us.length:=by rw [List.length_map,Array.length_toList,hp.size] at hj; exact hj
        have hle:=ha i j (by omega) hj'
        have hne:FK (fun i=>(ts.getD i (0,0,0)).1) p i ≠ FK (fun i=>(ts.getD i (0,0,0)).1) p j:=fun e=>by
          have:=hp.inj inj hi' hj' e
          omega
        have e1:∀ i (h:i < p.size),p.toList[i]'(by simpa using h) = p.getD i 0:=fun i h=>by rw [getD_eq h]; simp
        rw [List.getElem_map,List.getElem_map,e1 i (by rw [hp.size]; exact hi'),e1 j (by rw [hp.size]; exact hj')]
        unfold FK at hle hne
        dsimp only at hle hne ⊢
        omega
theorem snd_sorted (KF:W.Fns) {e:Mine.E} {x:Str} {p:PySem.Expr} {ps' pos:Pos} (hx:(x == ("sorted":Str)) = true) (hg:globOk ns x = true) (h1:notStar p = true) (i₁:SndE W Γ c n m priv ρ ns sl e p) :
    SndE W Γ c n m priv ρ ns sl (.sorted e) (.Call (.Name x ps') [p] [] pos):=fun Q σ s news X h a=>by
  obtain rfl:=beq_iff_eq.mp hx
  refine bcall1 KF (KF.bi _ (by simp)) (by boot_by_name) (by decide) hg h1 i₁ a h fun h' tk news' sv σ' v a' P V z=>?_
  obtain ⟨vs,e1,hz,q⟩:=z
  obtain ⟨l,rfl,e2⟩:=listAt_some e1
  cases V
  obtain ⟨its,k,j1,j2,j3⟩:=a'.list e2
  have hlen:=j2.len
  rcases q with ⟨is,g1,q⟩ | ⟨ts,g1,nd,q⟩
  · rw [intsOf_some g1] at j2
    refine sorted_N a'.F a'.N (vs:=its.toList) (by rw [Array.toArray_toList]; exact j3) j2.ints (by omega) fun h'' vs' ns' ee F' N' hI hp hs=>?_
    exact a'.newL (k:=ee) (its:=vs'.toArray) (by simpa using VRs.of_ints hI) F' N' (fun p hp=>Nat.lt_succ_of_lt (Heap.lt_size (a'.N p hp).1)) P (q _ ⟨hp,hs⟩)
  · rw [trisOf_some g1] at j2
    have hl2:ts.length < 64:=by rw [trisOf_some g1,List.length_map] at hz; exact hz
    refine sorted_tris a'.F a'.N (us:=its.toList) (by rw [Array.toArray_toList]; exact j1) j2 hl2 nd fun D h'' ws us' ee F' N' hD hv hps=>?_
    exact a'.newL (k:=ee) (its:=us'.toArray) (by simpa using hv) F' N' hD P (q _ hps)
end
end Mine
end
section
open PySem PySem.W PyProof.Rows PySem.Calls PySem.Spec
namespace Mine
set_option linter.unusedVariables false
section
variable {W:Wld} {c:Cfg} {n:Nat} {m:Str→Option Value} {priv news:News1} {s:Shared} {X:Value→Shared→Prop} {σ:Hp} {ρ:Lc} {ns:Nms} {sl:Sls} {Γ:Cal}
theorem DR.keys:∀ {kvs:List (Int × SV)} {kvs':List (Int × Value)},DR news kvs kvs'→kvs.map (·.1) = kvs'.map (·.1)
  | [],(_,_) :: _,h=>h.elim
  | (_,_) :: _,[],h=>h.elim
  | [],[],_=>rfl
  | (k,_) :: _,(k',_) :: _,⟨e,_,h⟩=>by rw [List.map_cons,List.map_cons,DR.keys h,e]
theorem ints_by:∀ {is:List Int} {us:List Value},us.length = is.length→(∀ (j:Nat) (v:Value),us[j]? = some v→∃ (k:Int) (t:Tok),is[j]? = some k∧v = Value.int k t)→IntsAre us is
  | [],[],_,_=>.nil
  | [],_ :: _,h,_=>by cases h
  | _ :: _,[],h,_=>by cases h
  | i :: is,u :: us,h,g=>by
    obtain ⟨k,t,e1,rfl⟩:=g 0 u rfl
    cases e1
    exact .cons _ t (ints_by (by simpa using h) fun j v e=>g (j + 1) v (by simpa using e))
theorem snd_sortedKeys (KF:W.Fns) {e:Mine.E} {x:Str} {p:PySem.Expr} {ps' pos:Pos} (hx:(x == ("sorted":Str)) = true) (hg:globOk ns x = true) (h1:notStar p = true) (i₁:SndE W Γ c n m priv ρ ns sl e p) :
    SndE W Γ c n m priv ρ ns sl (.sortedKeys e) (.Call (.Name x ps') [p] [] pos):=fun Q σ s news X h a=>by
  obtain rfl:=beq_iff_eq.mp hx
  refine bcall1 KF (KF.bi _ (by simp)) (by boot_by_name) (by decide) hg h1 i₁ a h fun h' tk news' sv σ' v a' P V z=>?_
  obtain ⟨kvs,e1,hz,q⟩:=z
  obtain ⟨l,rfl,e2⟩:=dictAt_some e1
  cases V
  obtain ⟨o,kvs',j1,j2,j3,j4⟩:=a'.dict e2
  have hD:h'.DictOf (PySem.intKind W.prog W.w) l kvs':=Heap.dictOf_iff.mpr ⟨o,(a'.N _ j1).1,j2⟩
  obtain ⟨ep,hat⟩:=hD.dictAt
  have hlen:=j3.len
  refine kdu_sorted (kdl_dict (knd:=PySem.intKind W.prog W.w) (kvs:=kvs') (ep:=ep) j4) a'.ok.hh a'.F a'.N hat (by rw [← hlen,sizeLine_eq]; omega) fun D h₁ tk₁ vs F₁ N₁ hD1 hl hv=>?_
  have hI:IntsAre vs (kvs.map (·.1)):=by
    rw [j3.keys]
    refine ints_by (by rw [List.length_map]; exact hl) fun j v hj=>?_
    obtain ⟨k,x,g1,g2⟩:=hv j v hj
    obtain ⟨t,rfl⟩:=Value.isInt_shape g2
    exact ⟨k,t,by rw [List.getElem?_map,g1]; rfl,rfl⟩
  refine ksk_lsort F₁ N₁ (fun o=>Upd.head fun q hq=>Nat.ne_of_lt (hD1 q hq)) (vs:=vs) (ns:=kvs.map (·.1)) (by simp) hI (by rw [List.length_map]; omega) fun vs' ns' cc h₂ F₂ N₂ hI' _ hp hs _=>?_
  exact a'.newL (k:=cc) (its:=vs'.toArray) (by simpa using VRs.of_ints hI') F₂ N₂ hD1 P (q _ ⟨hp,hs⟩)
end
end Mine
end
section
open PySem PySem.W PyProof.Rows PySem.Calls PySem.Spec
namespace Mine
set_option linter.unusedVariables false
section
variable {W:Wld} {c:Cfg} {n:Nat} {m:Str→Option Value} {priv pr news:News1} {s:Shared} {X:Value→Shared→Prop} {σ:Hp} {ρ:Lc} {ns:Nms} {sl:Sls} {Γ:Cal}
theorem At.pushP (a:At W c n m pr news s σ ρ ns sl) {o:Obj} {tk:Nat} (hi:notInst o) (hf:o.isFreed = false) :
    At W c n m ((s.heap.objs.size,o) :: pr) ((s.heap.objs.size,o) :: news) { s with heap:=s.heap.push o,toks:=tk } σ ρ ns sl :=
  ⟨a.ok,a.eo,a.F.push o,News.push a.F a.N o hf,RR.pushP a.R (size_fresh a.N) hi,a.nr.mono Per.cons fun p hp=>.tail _ hp⟩
theorem ne_cell (R:W.R σ pr news) {b cc:Addr} {o oc:Obj} {v:Option Value} (hm:(b,o) ∈ pr) (hc:∀ v,o.data ≠ .cell v) (h:(cc,oc) ∈ pr) (hd:oc.data = .cell v):cc ≠ b:=fun q=>by
  subst q
  have:=mem_eq R.nd (R.pv _ h) (R.pv _ hm)
  subst this
  exact hc _ hd
theorem NRes.turnP {pr' news':News1} {env:Env} {L b:Addr} {o:Obj} (R:W.R σ pr news) (hm:(b,o) ∈ pr) (hc:∀ v,o.data ≠ .cell v) (hl:b ≠ env.locals) (h:NRes env sl ρ L m pr news) (hp:Per news news') (hk:∀ x y,(x,y) ∈ pr→x ≠ b→(x,y) ∈ pr'):NRes env sl ρ L m pr' news':=fun i x sv h1 h2=>by
  obtain ⟨v,hv,r⟩:=h i x sv h1 h2
  refine ⟨v,hv.mono hp,?_⟩
  rcases r with r | ⟨r0,ob,m',r2,r3⟩ | ⟨r1,cc,o,r2,r3,r4⟩
  · exact .inl r
  · exact .inr (.inl ⟨r0,ob,m',hk _ _ r2 (Ne.symm hl),r3⟩)
  · exact .inr (.inr ⟨r1,cc,o,r2,hk _ _ r3 (ne_cell R hm hc r3 r4),r4⟩)
theorem At.turnN (a:At W c n m pr news s σ ρ ns sl) {b:Addr} {o o':Obj} {h':Heap} {tk:Nat} (hm:(b,o) ∈ pr) (ht:notTup o) (hi:notInst o') (hc:∀ v,o.data ≠ .cell v) (hl:b ≠ c.env.locals) (F':Fr c.h₀ c.L h' m) (N':News c.h₀ c.L h' (updL news b o')) :
    At W c n m (updL pr b o') (updL news b o') { s with heap:=h',toks:=tk } σ ρ ns sl∧Per news (updL news b o'):=by
  obtain ⟨R',P'⟩:=RR.turnP a.R hm ht hi
  exact ⟨⟨a.ok,a.eo,F',N',R',NRes.turnP a.R hm hc hl a.nr P' fun x y h hn=>updL_ne h hn⟩,P'⟩
theorem At.turn (a:At W c n m pr news s σ ρ ns sl) {b:Addr} {o o':Obj} {h':Heap} {tk:Nat} (hm:(b,o) ∈ pr) (ht:notTup o) (hi:notInst o') (hc:∀ v,o.data ≠ .cell v) (hl:b ≠ c.env.locals) (hs:Heap.SameBut b s.heap h') (ho:h'.get? b = some o') :
    At W c n m (updL pr b o') (updL news b o') { s with heap:=h',toks:=tk } σ ρ ns sl∧Per news (updL news b o'):=by
  obtain ⟨F',N'⟩:=turn_heap a.F a.N (a.R.pv _ hm) hs ho
  exact a.turnN hm ht hi hc hl F' N'
theorem At.drop (a:At W c n m pr news s σ ρ ns sl) {b:Addr} {o:Obj} {h':Heap} {tk:Nat} (hm:(b,o) ∈ pr) (ht:notTup o) (hc:∀ v,o.data ≠ .cell v) (hl:b ≠ c.env.locals) (hs:Heap.ExtBut b s.heap h') :
    At W c n m (pr.filter fun p=>decide (p.1 ≠ b)) (news.filter fun p=>decide (p.1 ≠ b)) { s with heap:=h',toks:=tk } σ ρ ns sl∧Per news (news.filter fun p=>decide (p.1 ≠ b)):=by
  have z:=a.N _ (a.R.pv _ hm)
  obtain ⟨R',P'⟩:=RR.drop (priv':=pr.filter fun p=>decide (p.1 ≠ b)) a.R hm ht (fun p hp=>(List.mem_filter.mp hp).1) (fun hq=>by
    obtain ⟨p,hp,e⟩:=List.mem_map.mp hq
    exact absurd e (by simpa using (List.mem_filter.mp hp).2))
  have F':Fr c.h₀ c.L h' m:=⟨a.F.ns.extBut hs (Ne.symm z.2.1),fun x o e=>hs x o (fun q=>by rw [q,z.2.2] at e; cases e) (a.F.keep x o e),a.F.above⟩
  have N':News c.h₀ c.L h' (news.filter fun p=>decide (p.1 ≠ b)):=fun p hp=>by
    have hp':=List.mem_filter.mp hp
    have y:=a.N p hp'.1
    exact ⟨hs _ _ (by simpa using hp'.2) y.1,y.2⟩
  exact ⟨⟨a.ok,a.eo,F',N',R',NRes.turnP a.R hm hc hl a.nr P' fun x y h hn=>List.mem_filter.mpr ⟨h,by simpa using hn⟩⟩,P'⟩
theorem RR.expose (R:W.R σ pr news) {D:Addr} {its:Array Value} {k:Nat} {ws:List SV} (hm:(D,listOf its k) ∈ pr) (hp:∀ p ∈ priv,p ∈ pr) (hD:D ∉ priv.map (·.1)) (hv:VRs news ws its.toList) :
    W.R (upd σ D (.list ws)) priv news∧σ D = none:=by
  have R':=R.less hp
  have hn:σ D = none:=by
    cases e:σ D with
    | none=>rfl
    | some so=>exact absurd (List.mem_map.mpr ⟨_,hm,rfl⟩) (R.ob D so e).1
  refine ⟨⟨R'.nd,R'.pv,fun a o e=>?_,R'.ui,R'.ud,R'.pi⟩,hn⟩
  by_cases ha:a = D
  · subst ha
    rw [upd_same] at e
    cases e
    exact ⟨hD,its,k,R.pv _ hm,hv⟩
  · rw [upd_ne _ _ ha] at e
    exact R'.ob a o e
theorem closure_eq {sc:Scope} {env:Env} (h:∀ y ∈ sc.names,y.2 = .free→∃ cc,env.cells.lookup y.1 = some cc) :
    ∃ cl,closureFor sc env = pure cl∧(∀ p ∈ cl,env.cells.lookup p.1 = some p.2)∧∀ y ∈ sc.names,y.2 = .free→∃ p ∈ cl,p.1 = y.1:=by
  unfold closureFor
  have gen:∀ (l:List (Str × NameKind)) (acc:List (Str × Addr)),(∀ y ∈ l,y.2 = .free→∃ cc,env.cells.lookup y.1 = some cc)→(∀ p ∈ acc,env.cells.lookup p.1 = some p.2) →
      ∃ cl,(forIn l acc fun (x:Str × NameKind) (cs:List (Str × Addr))=>(if x.2 == .free then do let a ← cellOf env x.1; pure (ForInStep.yield ((x.1,a) :: cs)) else pure (ForInStep.yield cs):Sem _)) = pure cl∧(∀ p ∈ cl,env.cells.lookup p.1 = some p.2)∧(∀ p ∈ acc,p ∈ cl)∧∀ y ∈ l,y.2 = .free→∃ p ∈ cl,p.1 = y.1:=by
    intro l
    induction l with
    | nil=>intro acc _ ha; exact ⟨acc,by rw [List.forIn_nil],ha,fun _ h=>h,fun _ h=>nomatch h⟩
    | cons y r ih =>
      intro acc hl ha
      by_cases hk:y.2 = .free
      · obtain ⟨cc,hcc⟩:=hl y (.head _) hk
        obtain ⟨cl,e,g1,g2,g3⟩:=ih ((y.1,cc) :: acc) (fun z hz=>hl z (.tail _ hz)) (fun p hp=>by
          rcases List.mem_cons.mp hp with rfl | hp
          · exact hcc
          · exact ha p hp)
        refine ⟨cl,?_,g1,fun p hp=>g2 p (.tail _ hp),fun z hz hzf=>?_⟩
        · rw [List.forIn_cons,hk]
          have ec:cellOf env y.1 = pure cc:=by unfold cellOf; rw [hcc]
          simp only [beq_self_eq_true,if_true,ec,pure_bind]
          exact e
        · rcases List.mem_cons.mp hz with rfl | hz
          · exact ⟨_,g2 _ (.head _),rfl⟩
          · exact g3 z hz hzf
      · obtain ⟨cl,e,g1,g2,g3⟩:=ih acc (fun z hz=>hl z (.tail _ hz)) ha
        refine ⟨cl,?_,g1,g2,fun z hz hzf=>?_⟩
        · rw [List.forIn_cons]
          have hb:(y.2 == NameKind.free) = false:=by simpa using hk
          simp only [hb,Bool.false_eq_true,if_false,pure_bind]
          exact e
        · rcases List.mem_cons.mp hz with rfl | hz
          · exact absurd hzf hk
          · exact g3 z hz hzf
  obtain ⟨cl,e,g1,_,g3⟩:=gen sc.names [] h fun _ h=>nomatch h
  refine ⟨cl,?_,g1,g3⟩
  rw [← bind_pure (forIn sc.names [] _)] at e
  rw [← e]
noncomputable def CellsAll (env:Env) (ns:Nms):Prop:=∀ y,ns.lookup y = some .cell→∃ cc,env.cells.lookup y = some cc
noncomputable abbrev Cfg.comp (c:Cfg) (sc:Scope) (cl:List (Str × Addr)) (C:Addr):Cfg:={ c with env:=compEnvC sc cl C c.env }
theorem Cfg.Ok.comp (h:c.Ok W n) (sc:Scope) (cl:List (Str × Addr)) (C:Addr):(c.comp sc cl C).Ok W n:=⟨h.B,h.hA,h.hf,h.hk,h.hh,h.X,h.T,h.hd,h.hu⟩
structure ScOk (ns:Nms) (xn:Str) (sc:Scope):Prop where
  k:sc.kind = .function
  c:∀ y ∈ sc.names,y.2 ≠ .cell
  l:∀ y ∈ sc.names,y.2 = .local→sc.names.lookup y.1 = some .local
  x:sc.names.lookup xn = some .local
  f:∀ y ∈ sc.names,y.2 = .free→ns.lookup y.1 = some .cell
theorem scOk_of {xn:Str} {sc:Scope} (h:compScOk ns xn sc = true):ScOk ns xn sc:=by
  unfold compScOk at h
  simp only [Bool.and_eq_true,beq_iff_eq,List.all_eq_true,Bool.or_eq_true,bne_iff_ne] at h
  obtain ⟨⟨⟨⟨h1,h2⟩,h3⟩,h4⟩,h5⟩:=h
  exact ⟨h1,h2,fun y hy hl=>(h3 y hy).resolve_left fun q=>q hl,h4,fun y hy hl=>(h5 y hy).resolve_left fun q=>q hl⟩
theorem relabel_names (eo:EnvOk c.env ns) (sc:Scope):(relabel sc c.env).names = compNs ns sc.names:=by
  unfold relabel compNs
  refine List.map_congr_left fun y _=>?_
  obtain ⟨a,k⟩:=y
  dsimp only
  unfold Env.kindOf
  rw [eo.nm,eo.sk]
  simp
theorem comp_eo {xn:Str} {sc:Scope} (eo:EnvOk c.env ns) (K:ScOk ns xn sc) (cl:List (Str × Addr)) (C:Addr):EnvOk (compEnvC sc cl C c.env) (compNs ns sc.names) :=
  ⟨K.k,eo.gl,eo.bl,relabel_names eo sc⟩
theorem lookup_compNs {ns cs:Nms} {y:Str}:(compNs ns cs).lookup y = (cs.lookup y).map fun k=>if k == .free && ns.lookup y == some .cell then .cell else k:=by
  unfold compNs
  induction cs with
  | nil=>rfl
  | cons p r ih =>
    obtain ⟨a,k⟩:=p
    rw [List.map_cons]
    dsimp only
    by_cases hy:y = a
    · subst hy
      split
      · rename_i h
        rw [List.lookup_cons,List.lookup_cons,beq_self_eq_true]
        show some NameKind.cell = some (if (k == NameKind.free && List.lookup y ns == some NameKind.cell) = true then _ else _)
        rw [if_pos h]
      · rename_i h
        rw [List.lookup_cons,List.lookup_cons,beq_self_eq_true]
        show some k = some (if (k == NameKind.free && List.lookup y ns == some NameKind.cell) = true then _ else _)
        rw [if_neg h]
    · have hb:(y == a) = false:=beq_false_of_ne hy
      split
      · rw [List.lookup_cons,List.lookup_cons,hb]; exact ih
      · rw [List.lookup_cons,List.lookup_cons,hb]; exact ih
theorem mem_lookup {α:Type} {x:Str} {v:α}:∀ {l:List (Str × α)},l.lookup x = some v→(x,v) ∈ l
  | (y,w) :: r,h=>by
    rw [List.lookup_cons] at h
    by_cases q:x = y
    · subst q
      rw [beq_self_eq_true] at h
      cases h
      exact .head _
    · rw [beq_false_of_ne q] at h
      exact .tail _ (mem_lookup h)
theorem comp_cells {env:Env} {sc:Scope} {cl:List (Str × Addr)} (h1:∀ p ∈ cl,env.cells.lookup p.1 = some p.2) (h2:∀ y ∈ sc.names,y.2 = .free→∃ p ∈ cl,p.1 = y.1) {y:Str} (hy:sc.names.lookup y = some .free) :
    ∃ cc,cl.lookup y = some cc∧env.cells.lookup y = some cc:=by
  obtain ⟨p,hp,e⟩:=h2 (y,.free) (mem_lookup hy) rfl
  have:∃ cc,cl.lookup y = some cc:=by
    clear h1 h2
    induction cl with
    | nil=>cases hp
    | cons q r ih =>
      obtain ⟨a,b⟩:=q
      rw [List.lookup_cons]
      by_cases hq:y = a
      · subst hq; rw [beq_self_eq_true]; exact ⟨_,rfl⟩
      · rw [beq_false_of_ne hq]
        rcases List.mem_cons.mp hp with rfl | hp
        · exact absurd e (Ne.symm hq)
        · exact ih hp
  obtain ⟨cc,hcc⟩:=this
  exact ⟨cc,hcc,h1 _ (mem_lookup hcc)⟩
end
end Mine
end
section
open PySem PySem.W PyProof.Rows PySem.Calls PySem.Spec
namespace Mine
set_option linter.unusedVariables false
section
variable {W:Wld} {c:Cfg} {n:Nat} {m:Str→Option Value} {priv pr news:News1} {s:Shared} {X:Value→Shared→Prop} {σ:Hp} {ρ:Lc} {ns:Nms} {sl:Sls} {Γ:Cal}
theorem getElem_compSl {ns cs:Nms} {sl:Sls} {x i:Nat} {xn y:Str} (h:(compSl ns cs sl x xn)[i]? = some (some y)) :
    (i = x∧y = xn) ∨ (i ≠ x∧sl[i]? = some (some y)∧ns.lookup y = some .cell∧cs.lookup y = some .free):=by
  unfold compSl at h
  rw [List.getElem?_mapIdx] at h
  obtain ⟨o,e,h⟩:=Option.map_eq_some_iff.mp h
  by_cases q:i = x
  · subst q
    rw [if_pos rfl] at h
    subst h
    rw [List.getElem?_set] at e
    simp only [if_true] at e
    split at e
    · cases e; exact .inl ⟨rfl,rfl⟩
    · cases e
  · rw [if_neg q] at h
    rw [List.getElem?_set_ne (Ne.symm q)] at e
    cases o with
    | none=>cases h
    | some z =>
      dsimp only at h
      split at h
      · rename_i hc
        cases h
        simp only [Bool.and_eq_true,beq_iff_eq] at hc
        exact .inr ⟨q,e,hc.1,hc.2⟩
      · cases h
theorem At.inner {xn:Str} {x:Nat} {sc:Scope} {cl:List (Str × Addr)} {C:Addr} {oC:Obj} {mC:Str→Option Value} {sv:SV} {v:Value} (a:At W c n m pr news s σ ρ ns sl) (K:ScOk ns xn sc)
    (h1:∀ p ∈ cl,c.env.cells.lookup p.1 = some p.2) (h2:∀ y ∈ sc.names,y.2 = .free→∃ p ∈ cl,p.1 = y.1) (hC:(C,oC) ∈ pr) (ho:ObjNs oC mC) (hm:mC xn = some v) (V:VR news sv v) :
    At W (c.comp sc cl C) n m pr news s σ (ρ.set x (some sv)) (compNs ns sc.names) (compSl ns sc.names sl x xn):=by
  refine ⟨a.ok.comp sc cl C,comp_eo a.eo K cl C,a.F,a.N,a.R,fun i y sv' g1 g2=>?_⟩
  rcases getElem_compSl g1 with ⟨rfl,rfl⟩ | ⟨q,g3,g4,g5⟩
  · rcases rd_set g2 with ⟨_,e⟩ | ⟨e,_⟩
    · cases e
      refine ⟨v,V,.inr (.inl ⟨?_,oC,mC,hC,ho,hm⟩)⟩
      show List.lookup y (relabel sc c.env).names = _
      rw [relabel_names a.eo,lookup_compNs,K.x]
      rfl
    · exact absurd rfl e
  · rcases rd_set g2 with ⟨e,_⟩ | ⟨_,g2⟩
    · exact absurd e.symm q
    · obtain ⟨u,hu,r⟩:=a.nr i y sv' g3 g2
      refine ⟨u,hu,?_⟩
      have hk:c.env.kindOf y = some .cell:=a.kind g4
      rcases r with ⟨r1,_⟩ | ⟨r1,_⟩ | ⟨r1,cc,o,r2,r3,r4⟩
      · rw [hk] at r1; cases r1
      · rw [hk] at r1; cases r1
      · obtain ⟨cc',e1,e2⟩:=comp_cells h1 h2 g5
        rw [r2] at e2
        cases e2
        refine .inr (.inr ⟨?_,cc,o,e1,r3,r4⟩)
        show List.lookup y (relabel sc c.env).names = _
        rw [relabel_names a.eo,lookup_compNs,g5]
        simp [g4]
theorem comp_all {xn:Str} {sc:Scope} {cl:List (Str × Addr)} (C:Addr) (eo:EnvOk c.env ns) (K:ScOk ns xn sc) (h1:∀ p ∈ cl,c.env.cells.lookup p.1 = some p.2) (h2:∀ y ∈ sc.names,y.2 = .free→∃ p ∈ cl,p.1 = y.1) :
    CellsAll (compEnvC sc cl C c.env) (compNs ns sc.names):=fun y hy=>by
  rw [lookup_compNs] at hy
  obtain ⟨k,e,h⟩:=Option.map_eq_some_iff.mp hy
  split at h
  · rename_i hc
    simp only [Bool.and_eq_true,beq_iff_eq] at hc
    rw [hc.1] at e
    obtain ⟨cc,e1,_⟩:=comp_cells h1 h2 e
    exact ⟨cc,e1⟩
  · subst h
    exact absurd rfl (K.c _ (mem_lookup e))
theorem dict_kind {o:Obj} {es:Array DictEntry} {ep:Nat} (h:o.data = .dict es ep):notTup o∧notInst o∧∀ v,o.data ≠ .cell v :=
  ⟨fun vs e=>by (subst e; cases h),fun C d e=>by (subst e; cases h),fun v e=>by (rw [h] at e; cases e)⟩
theorem list_cell {its:Array Value} {k:Nat}:∀ v,(listOf its k).data ≠ .cell v:=fun v e=>by cases e
theorem objNs_of {h:Heap} {a:Addr} {mm:Str→Option Value} (x:h.Ns a mm):∃ o,h.get? a = some o∧ObjNs o mm:=by
  obtain ⟨o,es,ep,h1,h2,h3,h4⟩:=x
  exact ⟨o,h1,es,ep,h2,h3,h4⟩
theorem ns_of {h:Heap} {a:Addr} {o:Obj} {mm:Str→Option Value} (h1:h.get? a = some o) (x:ObjNs o mm):h.Ns a mm:=by
  obtain ⟨es,ep,h2,h3,h4⟩:=x
  exact ⟨o,es,ep,h1,h2,h3,h4⟩
theorem compGo_drop {l:Nat} {vs:List SV} {Cw Ww:SV→(SV→Hp→Prop)→Hp→Prop} {j:Nat} (hj:j < vs.length) {acc:List SV} {Kw:List SV→Hp→Prop} {σ:Hp} (h:compGo l vs Cw Ww (vs.drop j) acc Kw σ) :
    Cw vs[j] (onB fun b σ=>if b then Ww vs[j] (fun w σ=>σ l = some (.list vs)∧acc.length < 1000∧compGo l vs Cw Ww (vs.drop (j + 1)) (acc ++ [w]) Kw σ) σ else σ l = some (.list vs)∧compGo l vs Cw Ww (vs.drop (j + 1)) acc Kw σ) σ:=by
  rw [List.drop_eq_getElem_cons hj] at h
  exact h
inductive CompI (W:Wld) (c:Cfg) (n:Nat) (m:Str→Option Value) (ρ:Lc) (ns:Nms) (sl:Sls) (s:Shared) (pr news:News1) (I D C:Addr) (l:Nat) (vs:List SV) (G:List SV→List SV→Hp→Prop) (k:Nat) (s':Shared):Prop
  | mk (h':Heap) (tk:Nat) (news':News1) (σ':Hp) (pr':News1) (j:Nat) (acc:List SV) (its:Array Value) (kk:Nat) (io oC:Obj) (mC:Str→Option Value) (e:s' = { s with heap:=h',toks:=tk }) (a:At W c n m pr' news' s' σ' ρ ns sl) (P:Per news news')
    (mI:(I,io) ∈ pr') (lI:ListIt l j io) (mD:(D,listOf its kk) ∈ pr') (vD:VRs news' acc its.toList) (mC':(C,oC) ∈ pr') (oN:ObjNs oC mC) (sb:∀ p ∈ pr,p ∈ pr') (ok:σ' l = some (.list vs)) (hjk:j + k = vs.length) (g:G (vs.drop j) acc σ')
theorem comp_loop {x:Nat} {xn:Str} {elt:Mine.E} {pe pit:PySem.Expr} {ifs:List PySem.Expr} {xp pos:Pos} {sc:Scope} {Cw:SV→(SV→Hp→Prop)→Hp→Prop} {Kw:List SV→Hp→Prop} {use:Option (Value→Sem Unit)} {Qf:Value→Shared→Prop} {cl:List (Str × Addr)} {I D C:Addr} {l:Nat} {vs:List SV}
    (hlo:c.env.locals = c.L) (eo:EnvOk c.env ns) (K:ScOk ns xn sc) (c1:∀ p ∈ cl,c.env.cells.lookup p.1 = some p.2) (c2:∀ y ∈ sc.names,y.2 = .free→∃ p ∈ cl,p.1 = y.1)
    (tests:∀ pr sv Kb σ s news X,Cw sv (onB Kb) σ→At W (c.comp sc cl C) n m pr news s σ (ρ.set x (some sv)) (compNs ns sc.names) (compSl ns sc.names sl x xn) →
      wpAny W.M c.A (forIn ifs true fun e r=>if r = true then do let ok ← PySem.isTrue e (compEnvC sc cl C c.env) (eval e (compEnvC sc cl C c.env)); pure (ForInStep.yield ok) else pure (ForInStep.yield r)) (PT W (c.comp sc cl C) m pr s news Kb) X s)
    (iE:∀ pr sv,SndE W Γ (c.comp sc cl C) n m pr (ρ.set x (some sv)) (compNs ns sc.names) (compSl ns sc.names sl x xn) elt pe)
    (fin:∀ h tk news' σ' ws k oC mC its pr',At W c n m pr' news' { s with heap:=h,toks:=tk } σ' ρ ns sl→Per news news'→(C,oC) ∈ pr'→ObjNs oC mC→(D,listOf its k) ∈ pr'→VRs news' ws its.toList→(∀ p ∈ pr,p ∈ pr') →
      Kw ws σ'→compPost W.M c.A X use Qf (.ref D) C (.ok .next) { s with heap:=h,toks:=tk })
    (hz:vs.length < 1000) (sI:∀ p ∈ pr,p.1 < I) (hID:I < D) (hDC:D < C) {s':Shared} (h0:CompI W c n m ρ ns sl s pr news I D C l vs (fun r acc σ'=>compGo l vs Cw (fun v K σ=>wpE Γ elt (ρ.set x (some v)) K σ) r acc Kw σ') vs.length s') :
    codeAny W.M c.A (.compLoop (.ListComp pe [⟨.Name xn xp,pit,ifs,0⟩] sc pos) 0 (.ref I) (.ref D) (compEnvC sc cl C c.env)) (compPost W.M c.A X use Qf (.ref D) C) s':=by
  have lt_ne:∀ {b:Addr},I ≤ b→∀ p ∈ pr,p.1 ≠ b:=fun hb p hp e=>absurd (sI p hp) (by rw [e]; exact Nat.not_lt_of_le hb)
  have noL:∀ {pr' news':News1} {s':Shared} {σ':Hp} {b:Addr} {o:Obj},At W c n m pr' news' s' σ' ρ ns sl→(b,o) ∈ pr'→b ≠ c.env.locals:=fun a' hm e=>(a'.N _ (a'.R.pv _ hm)).2.1 (e.trans hlo)
  refine codeAny_compLoop_tests (CompI W c n m ρ ns sl s pr news I D C l vs (fun r acc σ'=>compGo l vs Cw (fun v K σ=>wpE Γ elt (ρ.set x (some v)) K σ) r acc Kw σ')) (fun k s' hI=>?_) vs.length h0 (fun _=>rfl)
  obtain ⟨h',tk,news',σ',pr',j,acc,its,kk,io,oC,mC,rfl,a',P',mI,lI,mD,vD,mC',oN,sb,ok,hjk,g⟩:=hI
  have KI:=(list_kind (W:=W) (l:=l) (it:=I) (all:=vs) (news₀:=news'))
  have kI:=KI.kind _ _ lI
  cases k with
  | zero =>
    have ej:j = vs.length:=by omega
    subst ej
    refine KI.stop c n m pr' news' _ σ' ρ ns sl io _ _ a' ok lI mI (fun _ h=>nomatch h) Per.refl fun h'' he=>?_
    obtain ⟨a'',P''⟩:=a'.drop (tk:=tk) mI kI.1 kI.2.2 (noL a' mI) he
    rw [List.drop_length] at g
    have keep:∀ {b o},(b,o) ∈ pr'→b ≠ I→(b,o) ∈ pr'.filter fun p=>decide (p.1 ≠ I):=fun h hb=>List.mem_filter.mpr ⟨h,by simpa using hb⟩
    exact fin h'' tk _ σ' acc kk oC mC its _ a'' (P'.trans P'') (keep mC' (Nat.ne_of_gt (Nat.lt_trans hID hDC))) oN (keep mD (Nat.ne_of_gt hID)) (vD.mono P'') (fun p hp=>keep (sb p hp) (lt_ne (Nat.le_refl _) p hp)) g
  | succ k =>
    have hlt:j < vs.length:=by omega
    refine KI.item j vs[j] c n m pr' news' _ σ' ρ ns sl io _ _ (List.getElem?_eq_getElem hlt) a' ok lI mI (fun _ h=>nomatch h) Per.refl fun h₆ t₆ v io' V₆ hs₆ ho₆ lI₆=>?_
    have kI':=KI.kind _ _ lI₆
    obtain ⟨a₆,P₆⟩:=a'.turn (tk:=t₆) mI kI.1 kI'.2.1 kI.2.2 (noL a' mI) hs₆ ho₆
    have mC₆:=updL_ne (o':=io') mC' (Nat.ne_of_gt (Nat.lt_trans hID hDC))
    have mD₆:=updL_ne (o':=io') mD (Nat.ne_of_gt hID)
    have mI₆:=updL_self (o':=io') mI
    have sb₆:∀ p ∈ pr,p ∈ updL pr' I io':=fun p hp=>updL_ne (sb p hp) (lt_ne (Nat.le_refl _) p hp)
    have hCn:=ns_of (a₆.N _ (a₆.R.pv _ mC₆)).1 oN
    have hkx:(compEnvC sc cl C c.env).kindOf xn = some .local:=by
      show List.lookup xn (relabel sc c.env).names = _
      rw [relabel_names eo,lookup_compNs,K.x]
      rfl
    refine wpAny_assign_Name (wpAny_storeName_local hkx hCn (fun h₇ hn₇ hs₇=>?_) (by show (sc.kind == .class || (sc.kind == .module && _)) = false; rw [K.k]; rfl))
    obtain ⟨oC',ho₇,oN₇⟩:=objNs_of hn₇
    have dk₆:=dict_kind oN.choose_spec.choose_spec.1
    have dk₇:=dict_kind oN₇.choose_spec.choose_spec.1
    obtain ⟨a₇,P₇⟩:=a₆.turn (tk:=t₆ + 1) mC₆ dk₆.1 dk₇.2.1 dk₆.2.2 (noL a₆ mC₆) hs₇ ho₇
    have mC₇:=updL_self (o':=oC') mC₆
    have mD₇:=updL_ne (o':=oC') mD₆ (Nat.ne_of_lt hDC)
    have mI₇:=updL_ne (o':=oC') mI₆ (Nat.ne_of_lt (Nat.lt_trans hID hDC))
    have sb₇:∀ p ∈ pr,p ∈ updL (updL pr' I io') C oC':=fun p hp=>updL_ne (sb₆ p hp) (lt_ne (Nat.le_of_lt (Nat.lt_trans hID hDC)) p hp)
    have PP₇:=(P'.trans P₆).trans P₇
    have b₇:=a₇.inner (x:=x) (sv:=vs[j]) K c1 c2 mC₇ oN₇ (if_pos rfl) (V₆.mono (P₆.trans P₇))
    refine wpAny_mono (tests _ _ _ _ _ _ (fun _ _=>False) (compGo_drop hlt g) b₇) (fun b s₈ z=>?_) fun _ _ x=>x.elim
    obtain ⟨h₈,t₈,n₈,σ₈,rfl,F₈,N₈,R₈,P₈,q₈⟩:=z
    have a₈:=a₇.next (tk:=t₈) F₈ N₈ R₈ P₈
    have b₈:=a₈.inner (x:=x) (sv:=vs[j]) K c1 c2 mC₇ oN₇ (if_pos rfl) (V₆.mono ((P₆.trans P₇).trans P₈))
    cases b with
    | false =>
      simp only [Bool.false_eq_true,if_false] at q₈ ⊢
      exact ⟨k,Nat.lt_succ_self k,h₈,t₈,n₈,σ₈,_,j + 1,acc,its,kk,io',oC',_,rfl,a₈,PP₇.trans P₈,mI₇,lI₆,mD₇,vD.mono ((P₆.trans P₇).trans P₈),mC₇,oN₇,sb₇,q₈.1,by omega,q₈.2⟩
    | true =>
      simp only [if_true] at q₈ ⊢
      refine (iE _ _).then (X:=fun _ _=>False) b₈ q₈ (fun h₉ t₉ n₉ w σ₉ u b₉ P₉ V₉ q₉=>?_) |> fun z=>wpAny_mono z (fun _ _ x=>x) fun _ _ x=>x.elim
      obtain ⟨ok₉,hl₉,g₉⟩:=q₉
      have a₉:=a₈.next (tk:=t₉) b₉.F b₉.N b₉.R P₉
      have vD₉:=vD.mono (((P₆.trans P₇).trans P₈).trans P₉)
      have hsz:=vD₉.size
      refine append_K a₉.F a₉.N (upd_of a₉.R.nd (a₉.R.pv _ mD₇)) (fun h₁₀ F₁₀ N₁₀=>?_) (by rw [hsz,sizeLine_eq]; omega)
      obtain ⟨a₁₀,P₁₀⟩:=a₉.turnN (tk:=t₉) mD₇ listOf_tup listOf_inst list_cell (noL a₉ mD₇) F₁₀ N₁₀
      refine ⟨k,Nat.lt_succ_self k,h₁₀,t₉,_,σ₉,_,j + 1,acc ++ [w],its.push u,kk + 1,io',oC',_,rfl,a₁₀,((PP₇.trans P₈).trans P₉).trans P₁₀,updL_ne mI₇ (Nat.ne_of_lt hID),lI₆,updL_self mD₇,?_,updL_ne mC₇ (Nat.ne_of_gt hDC),oN₇,
        fun p hp=>updL_ne (sb₇ p hp) (lt_ne (Nat.le_of_lt hID) p hp),ok₉,by omega,g₉⟩
      rw [Array.toList_push]
      exact (vD₉.append (bs:=[w]) (us:=[u]) ⟨V₉,trivial⟩).mono P₁₀
theorem comp_core {x:Nat} {xn:Str} {elt it:Mine.E} {pe pit:PySem.Expr} {ifs:List PySem.Expr} {xp pos ppos:Pos} {sc:Scope} {Cw:SV→(SV→Hp→Prop)→Hp→Prop} {Kw:List SV→Hp→Prop} {use:Option (Value→Sem Unit)} {Qf:Value→Shared→Prop}
    (hlo:c.env.locals = c.L) (ca:CellsAll c.env ns) (K:ScOk ns xn sc) (hns:notSet pit = true) (ih:SndE W Γ c n m pr ρ ns sl it pit)
    (tests:∀ cl C,CellsAll (compEnvC sc cl C c.env) (compNs ns sc.names)→∀ pr sv Kb σ s news X,Cw sv (onB Kb) σ→At W (c.comp sc cl C) n m pr news s σ (ρ.set x (some sv)) (compNs ns sc.names) (compSl ns sc.names sl x xn) →
      wpAny W.M c.A (forIn ifs true fun e r=>if r = true then do let ok ← PySem.isTrue e (compEnvC sc cl C c.env) (eval e (compEnvC sc cl C c.env)); pure (ForInStep.yield ok) else pure (ForInStep.yield r)) (PT W (c.comp sc cl C) m pr s news Kb) X s)
    (iE:∀ cl C,CellsAll (compEnvC sc cl C c.env) (compNs ns sc.names)→∀ pr sv,SndE W Γ (c.comp sc cl C) n m pr (ρ.set x (some sv)) (compNs ns sc.names) (compSl ns sc.names sl x xn) elt pe)
    (a:At W c n m pr news s σ ρ ns sl)
    (h:wpE Γ it ρ (fun v σ=>on v.asRef fun l=>on (listAt σ v) fun vs=>vs.length < 1000∧compGo l vs Cw (fun v K σ=>wpE Γ elt (ρ.set x (some v)) K σ) vs [] Kw σ) σ)
    (fin:∀ h tk news' σ' ws D C k oC mC its pr',At W c n m pr' news' { s with heap:=h,toks:=tk } σ' ρ ns sl→Per news news'→(C,oC) ∈ pr'→ObjNs oC mC→(D,listOf its k) ∈ pr'→VRs news' ws its.toList→(∀ p ∈ pr,p ∈ pr') →
      C ∉ pr.map (·.1)→D ∉ pr.map (·.1)→C ≠ D→Kw ws σ'→compPost W.M c.A X use Qf (.ref D) C (.ok .next) { s with heap:=h,toks:=tk }) :
    wpAny W.M c.A (comprehension (.ListComp pe [⟨.Name xn xp,pit,ifs,0⟩] sc pos) sc c.env ppos (newList []) false (eval pit c.env) use) Qf X s:=by
  obtain ⟨cl,hcl,c1,c2⟩:=closure_eq (sc:=sc) (env:=c.env) fun y hy hf=>ca _ (K.f y hy hf)
  refine wpAny_comprehension_free (use:=use) rfl (notSet_it hns) hcl K.k K.l ?_
  refine ih.then a h fun h₁ t₁ n₁ sv σ₁ v a₁ P₁ V₁ q=>?_
  obtain ⟨l,e1,vs,e2,hz,q⟩:=q
  obtain ⟨l',rfl,f1⟩:=listAt_some e2
  cases e1
  cases V₁
  obtain ⟨its,kk,i1,i2,i3⟩:=a₁.list f1
  refine wpAny_pyIter_list i3 ?_
  have a₂:=a₁.pushP (o:={ cls:=.type "list_iterator",data:=.fields #[.ref l,.int 0 0] }) (tk:=t₁) (kind_it (T:="list_iterator") (by decide) rfl rfl).2.1 rfl
  refine wpAny_newObj_type ?_
  have a₃:=a₂.pushP (o:={ cls:=.type "list",data:=.seq ([]:List Value).toArray }) (tk:=t₁) listOf_inst rfl
  refine wpAny_newFunctionEnv K.c (by intro y hy; simp at hy) (fun h₄ hns₄ hsb₄=>?_) K.k
  have a₄:=a₃.pushP (o:={ cls:=.type "dict",data:=.dict #[] }) (tk:=t₁ + 0) dictOf_inst rfl
  obtain ⟨oC,ho4,hC4⟩:=objNs_of hns₄
  have dk:=dict_kind hC4.choose_spec.choose_spec.1
  dsimp only at a₄ hsb₄ ho4 hns₄ ⊢
  have sI:∀ p ∈ pr,p.1 < h₁.objs.size:=fun p hp=>size_fresh a₁.N p (a₁.R.pv p hp)
  have hID:h₁.objs.size < (h₁.push { cls:=.type "list_iterator",data:=.fields #[.ref l,.int 0 0] }).objs.size:=by rw [Heap.size_push]; exact Nat.lt_succ_self _
  have hDC:(h₁.push { cls:=.type "list_iterator",data:=.fields #[.ref l,.int 0 0] }).objs.size < ((h₁.push { cls:=.type "list_iterator",data:=.fields #[.ref l,.int 0 0] }).push { cls:=.type "list",data:=.seq ([]:List Value).toArray }).objs.size:=by rw [Heap.size_push (h:=h₁.push _)]; exact Nat.lt_succ_self _
  have nm:∀ {b:Addr},h₁.objs.size ≤ b→b ∉ pr.map (·.1):=fun hb hm=>by obtain ⟨p,hp,e⟩:=List.mem_map.mp hm; exact absurd (sI p hp) (by rw [e]; exact Nat.not_lt_of_le hb)
  obtain ⟨a₅,P₅⟩:=a₄.turn (tk:=t₁ + 0) (.head _) dictOf_tup dk.2.1 (fun v e=>by cases e) (fun e=>(a₄.N _ (a₄.R.pv _ (.head _))).2.1 (e.trans hlo)) hsb₄ ho4
  refine codeAny_compStart_list ?lp (wpAny_pyIter_listiter ⟨_,(a₅.N _ (a₅.R.pv _ (updL_ne (.tail _ (.tail _ (.head _))) (Nat.ne_of_lt (Nat.lt_trans hID hDC))))).1,rfl,rfl⟩ ?lp)
  exact comp_loop hlo a.eo K c1 c2 (tests cl _ (comp_all _ a.eo K c1 c2)) (iE cl _ (comp_all _ a.eo K c1 c2)) (fun h tk news' σ' ws k oC mC its pr' g1 g2 g3 g4 g5 g6 g7 g8=>fin h tk news' σ' ws _ _ k oC mC its pr' g1 g2 g3 g4 g5 g6 g7 (nm (Nat.le_of_lt (Nat.lt_trans hID hDC))) (nm (Nat.le_of_lt hID)) (Nat.ne_of_gt hDC) g8) hz sI hID hDC
    (.mk h₄ _ _ σ₁ _ 0 [] #[] 0 _ oC _ rfl a₅ (P₁.trans (Per.cons.trans (Per.cons.trans (Per.cons.trans P₅)))) (updL_ne (.tail _ (.tail _ (.head _))) (Nat.ne_of_lt (Nat.lt_trans hID hDC))) ⟨rfl,rfl⟩ (updL_ne (.tail _ (.head _)) (Nat.ne_of_lt hDC)) trivial (updL_self (.head _)) hC4
      (fun p hp=>updL_ne (.tail _ (.tail _ (.tail _ hp))) fun e=>absurd (sI p hp) (by rw [e]; exact Nat.not_lt_of_le (Nat.le_of_lt (Nat.lt_trans hID hDC)))) f1 (Nat.zero_add _) q)
end
end Mine
end
section
open PySem PySem.W PyProof.Rows PySem.Calls PySem.Spec
namespace Mine
set_option linter.unusedVariables false
section
variable {W:Wld} {c:Cfg} {n:Nat} {m:Str→Option Value} {priv pr news:News1} {s:Shared} {X:Value→Shared→Prop} {σ:Hp} {ρ:Lc} {ns:Nms} {sl:Sls} {Γ:Cal}
structure CompIn (W:Wld) (Γ:Cal) (c:Cfg) (n:Nat) (ns:Nms) (sl:Sls) (x:Nat) (xn:Str) (sc:Scope) (Cw:Lc→SV→(SV→Hp→Prop)→Hp→Prop) (elt:Mine.E) (pe:PySem.Expr) (ifs:List PySem.Expr):Prop where
  lo:c.env.locals = c.L
  ca:CellsAll c.env ns
  K:ScOk ns xn sc
  tests:∀ cl C,CellsAll (compEnvC sc cl C c.env) (compNs ns sc.names)→∀ m ρ pr sv Kb σ s news X,Cw ρ sv (onB Kb) σ→At W (c.comp sc cl C) n m pr news s σ (ρ.set x (some sv)) (compNs ns sc.names) (compSl ns sc.names sl x xn) →
      wpAny W.M c.A (forIn ifs true fun e r=>if r = true then do let ok ← PySem.isTrue e (compEnvC sc cl C c.env) (eval e (compEnvC sc cl C c.env)); pure (ForInStep.yield ok) else pure (ForInStep.yield r)) (PT W (c.comp sc cl C) m pr s news Kb) X s
  iE:∀ cl C,CellsAll (compEnvC sc cl C c.env) (compNs ns sc.names)→SE W Γ (c.comp sc cl C) n (compNs ns sc.names) (compSl ns sc.names sl x xn) elt pe
noncomputable abbrev wpComp (Γ:Cal) (Cw:Lc→SV→(SV→Hp→Prop)→Hp→Prop) (x:Nat) (elt it:Mine.E) (ρ:Lc) (Q:SV→Hp→Prop) (σ:Hp):Prop :=
  wpE Γ it ρ (fun v σ=>on v.asRef fun l=>on (listAt σ v) fun vs=>vs.length < 1000∧compGo l vs (Cw ρ) (fun v K σ=>wpE Γ elt (ρ.set x (some v)) K σ) vs [] (fun ws σ=>newO (.list ws) Q σ) σ) σ
theorem eval_comp {pe pit:PySem.Expr} {ifs:List PySem.Expr} {xn:Str} {xp pos:Pos} {sc:Scope} {env:Env}:eval (.ListComp pe [⟨.Name xn xp,pit,ifs,0⟩] sc pos) env =
    comprehension (.ListComp pe [⟨.Name xn xp,pit,ifs,0⟩] sc pos) sc env (firstIterPos [⟨.Name xn xp,pit,ifs,0⟩] pos) (newList []) false (eval pit env) none:=rfl
theorem snd_comp_of {x:Nat} {xn:Str} {elt it:Mine.E} {pe pit:PySem.Expr} {ifs:List PySem.Expr} {xp pos:Pos} {sc:Scope} {Cw:Lc→SV→(SV→Hp→Prop)→Hp→Prop} (B:CompIn W Γ c n ns sl x xn sc Cw elt pe ifs) (hns:notSet pit = true) (ih:SndE W Γ c n m pr ρ ns sl it pit)
    {Q:SV→Hp→Prop} (h:wpComp Γ Cw x elt it ρ Q σ) (a:At W c n m pr news s σ ρ ns sl):wpAny W.M c.A (eval (.ListComp pe [⟨.Name xn xp,pit,ifs,0⟩] sc pos) c.env) (PE W c m pr s news Q) X s:=by
  rw [eval_comp]
  refine comp_core B.lo B.ca B.K hns ih (fun cl C ca=>B.tests cl C ca m ρ) (fun cl C ca pr sv=>B.iE cl C ca m pr _) a h fun h' tk news' σ' ws D C k oC mC its pr' a' P mC' oN mD vD sb nC nD hCD q=>?_
  refine ⟨mC,ns_of (a'.N _ (a'.R.pv _ mC')).1 oN,fun h'' hs=>?_⟩
  have dk:=dict_kind oN.choose_spec.choose_spec.1
  obtain ⟨a'',P''⟩:=a'.drop (tk:=tk) mC' dk.1 dk.2.2 (fun e=>(a'.N _ (a'.R.pv _ mC')).2.1 (e.trans B.lo)) hs.extBut
  have keep:∀ {b o},(b,o) ∈ pr'→b ≠ C→(b,o) ∈ pr'.filter fun p=>decide (p.1 ≠ C):=fun h hb=>List.mem_filter.mpr ⟨h,by simpa using hb⟩
  obtain ⟨R3,n3⟩:=RR.expose (priv:=pr) (ws:=ws) a''.R (keep mD (Ne.symm hCD)) (fun p hp=>keep (sb p hp) fun e=>nC (by rw [← e]; exact List.mem_map_of_mem hp)) nD (vD.mono P'')
  exact PE.now a''.F a''.N R3 (P.trans P'') (VR.ref D) (q D n3)
theorem NRes.store {env:Env} {L:Addr} {i:Nat} {y:Str} {sv:SV} {v:Value} (h:NRes env sl ρ L m pr news) (hlo:env.locals = L) (sd:∀ (i j:Nat) (x:Str),sl[i]? = some (some x)→sl[j]? = some (some x)→i = j) (hi:sl[i]? = some (some y)) (hk:env.kindOf y = some .local) (V:VR news sv v) :
    NRes env sl (ρ.set i (some sv)) L (fun z=>if z = y then some v else m z) pr news:=fun j z x h1 h2=>by
  rcases rd_set h2 with ⟨rfl,e⟩ | ⟨hne,e⟩
  · rw [hi] at h1
    cases h1
    cases e
    exact ⟨v,V,.inl ⟨hk,hlo,if_pos rfl⟩⟩
  · obtain ⟨u,hu,r⟩:=h j z x h1 e
    refine ⟨u,hu,?_⟩
    rcases r with ⟨r1,r2,r3⟩ | r | r
    · exact .inl ⟨r1,r2,by show (if z = y then some v else m z) = some u; rw [if_neg (fun q:z = y=>hne (sd _ _ _ hi (q ▸ h1)))]; exact r3⟩
    · exact .inr (.inl r)
    · exact .inr (.inr r)
theorem snd_assign_comp_of {x i:Nat} {xn y:Str} {elt it:Mine.E} {pe pit:PySem.Expr} {ifs:List PySem.Expr} {xp pp tp pos:Pos} {sc:Scope} {Cw:Lc→SV→(SV→Hp→Prop)→Hp→Prop} (B:CompIn W Γ c n ns sl x xn sc Cw elt pe ifs) (hns:notSet pit = true) (ih:SE W Γ c n ns sl it pit)
    (hs:stOk ns sl i y = true) (hk:ns.lookup y = some .local) (hl:(tp.line == pp.line) = true) (hn:(sc.names.any fun z=>z.1 == y && (z.2 == .local || z.2 == .cell)) = false)
    {Q:Fl→Lc→Hp→Prop} (h:wpComp Γ Cw x elt it ρ (fun v σ=>Q .next (ρ.set i (some v)) σ) σ) (a:AtS W c n m priv pr news s σ ρ ns sl) :
    wpAny W.M c.A (exec (.Assign [.Name y tp] (.ListComp pe [⟨.Name xn xp,pit,ifs,0⟩] sc pp) pos) c.env) (PS W c n priv s news ns sl Q) X s:=by
  have hky:c.env.kindOf y = some .local:=a.at_.kind hk
  have hsw:swapsWith (.ListComp pe [⟨.Name xn xp,pit,ifs,0⟩] sc pp) (some (.Name y tp)) pos.line c.env = pure true:=by
    show (pure (c.env.blockKind == .function && c.env.kindOf y == some .local && tp.line == pp.line && !(sc.names.any fun (n,k)=>n == y && (k == .local || k == .cell))):Sem Bool) = pure true
    have hb:c.env.blockKind = .function:=by unfold Env.blockKind; rw [a.at_.eo.sk]; rfl
    rw [hb,hky,hl]
    have:(sc.names.any fun (x:Str × NameKind)=>match x with | (n,k)=>n == y && (k == .local || k == .cell)) = false:=hn
    rw [this]
    rfl
  rw [exec_Assign_Name_used _ _ _ _ hsw]
  refine wpAny_bind (wpAny_standAt (wpAny_bind ?_))
  show wpAny _ _ (do let _ ← comprehension (.ListComp pe [⟨.Name xn xp,pit,ifs,0⟩] sc pp) sc c.env _ (newList []) false (eval pit c.env) (some (assign (.Name y tp) c.env))) _ _ s
  have hi:sl[i]? = some (some y):=by
    unfold stOk at hs
    simp only [Bool.and_eq_true,beq_iff_eq] at hs
    exact hs.1
  refine wpAny_bind (wpAny_mono (comp_core (X:=X) (Qf:=fun _ s'=>PS W c n priv s news ns sl Q .next s') (Kw:=fun ws σ=>newO (.list ws) (fun v σ=>Q .next (ρ.set i (some v)) σ) σ) B.lo B.ca B.K hns (ih m pr ρ) (fun cl C ca=>B.tests cl C ca m ρ) (fun cl C ca pr sv=>B.iE cl C ca m pr _) a.at_ h
    fun h' tk news' σ' ws D C k oC mC its pr' a' P mC' oN mD vD sb nC nD hCD q=>?_) (fun _ s' z=>wpAny_pure (wpAny_pure z)) fun _ _ e=>e)
  show wpAny _ _ (assign (.Name y tp) c.env (.ref D)) _ _ _
  refine wpAny_assign_Name (wpAny_storeName_local hky (by rw [B.lo]; exact a'.F.ns) (fun h₂ hn₂ hs₂=>?_) (by rw [a'.eo.sk]; rfl))
  rw [B.lo] at hn₂ hs₂
  have F₂:=a'.F.set hn₂ hs₂
  have N₂:=a'.N.set hs₂
  refine ⟨mC,ns_of (N₂ _ (a'.R.pv _ mC')).1 oN,fun h₃ hs₃=>?_⟩
  have dk:=dict_kind oN.choose_spec.choose_spec.1
  have z:=N₂ _ (a'.R.pv _ mC')
  have keep:∀ {b o},(b,o) ∈ pr'→b ≠ C→(b,o) ∈ pr'.filter fun p=>decide (p.1 ≠ C):=fun h hb=>List.mem_filter.mpr ⟨h,by simpa using hb⟩
  have sb':∀ p ∈ pr,p ∈ pr'.filter fun p=>decide (p.1 ≠ C):=fun p hp=>keep (sb p hp) fun e=>nC (by rw [← e]; exact List.mem_map_of_mem hp)
  obtain ⟨R₃,P₃⟩:=RR.drop (priv':=pr'.filter fun p=>decide (p.1 ≠ C)) a'.R mC' dk.1 (fun p hp=>(List.mem_filter.mp hp).1) (fun hq=>by
    obtain ⟨p,hp,e⟩:=List.mem_map.mp hq
    exact absurd e (by simpa using (List.mem_filter.mp hp).2))
  have F₃:Fr c.h₀ c.L h₃ _:=F₂.change hs₃ z.2.1 z.2.2
  have N₃:News c.h₀ c.L h₃ (news'.filter fun p=>decide (p.1 ≠ C)):=fun p hp=>by
    have hp':=List.mem_filter.mp hp
    have y:=N₂ p hp'.1
    exact ⟨hs₃.extBut _ _ (by simpa using hp'.2) y.1,y.2⟩
  obtain ⟨R₄,n₄⟩:=RR.expose (priv:=pr) (ws:=ws) R₃ (keep mD (Ne.symm hCD)) sb' nD (vD.mono P₃)
  have PP:=P.trans P₃
  exact ⟨h₃,tk + 1,_,pr,_,ρ.set i (some (.ref D)),_,.next,rfl,⟨⟨a.at_.ok,a.at_.eo,F₃,N₃,R₄,NRes.store (a.at_.nr.mono PP fun _ h=>h) a.lo a.sd hi hky (VR.ref D)⟩,a.lo,a.ci,a.sd⟩,PP,trivial,q D n₄⟩
theorem tests_nil {x:Nat} {sc:Scope} {cl:List (Str × Addr)} {C:Addr} {sv:SV} {Kb:Bool→Hp→Prop} {ns':Nms} {sl':Sls} (h:onB Kb (.bool true) σ) (a:At W (c.comp sc cl C) n m pr news s σ (ρ.set x (some sv)) ns' sl') :
    wpAny W.M c.A (forIn ([]:List PySem.Expr) true fun e r=>if r = true then do let ok ← PySem.isTrue e (compEnvC sc cl C c.env) (eval e (compEnvC sc cl C c.env)); pure (ForInStep.yield ok) else pure (ForInStep.yield r)) (PT W (c.comp sc cl C) m pr s news Kb) X s:=by
  obtain ⟨t,e,h⟩:=h
  cases e
  exact wpAny_tests_nil ⟨s.heap,s.toks,news,σ,rfl,a.F,a.N,a.R,Per.refl,h⟩
theorem snd_comp {x:Nat} {xn:Str} {elt it:Mine.E} {pe pit:PySem.Expr} {xp pos:Pos} {sc:Scope} (lo:c.env.locals = c.L) (ca:CellsAll c.env ns) (K:compScOk ns xn sc = true) (hns:notSet pit = true) (ih:SE W Γ c n ns sl it pit)
    (iE:∀ cl C,CellsAll (compEnvC sc cl C c.env) (compNs ns sc.names)→EnvOk (compEnvC sc cl C c.env) (compNs ns sc.names)→SE W Γ (c.comp sc cl C) n (compNs ns sc.names) (compSl ns sc.names sl x xn) elt pe) (eo:EnvOk c.env ns) :
    SE W Γ c n ns sl (.comp x elt it) (.ListComp pe [⟨.Name xn xp,pit,[],0⟩] sc pos):=fun m pr ρ Q σ s news X h a =>
  snd_comp_of (Cw:=fun _ _ K σ=>K (.bool true) σ) ⟨lo,ca,scOk_of K,fun cl C ca m ρ pr sv Kb σ s news X h a=>tests_nil h a,fun cl C ca=>iE cl C ca (comp_eo eo (scOk_of K) cl C)⟩ hns (ih m pr ρ) h a
theorem snd_compIf {x:Nat} {xn:Str} {elt it cd:Mine.E} {pe pit pc:PySem.Expr} {xp pos:Pos} {sc:Scope} (lo:c.env.locals = c.L) (ca:CellsAll c.env ns) (K:compScOk ns xn sc = true) (hns:notSet pit = true) (ih:SE W Γ c n ns sl it pit)
    (iE:∀ cl C,CellsAll (compEnvC sc cl C c.env) (compNs ns sc.names)→EnvOk (compEnvC sc cl C c.env) (compNs ns sc.names)→SE W Γ (c.comp sc cl C) n (compNs ns sc.names) (compSl ns sc.names sl x xn) elt pe)
    (iC:∀ cl C,CellsAll (compEnvC sc cl C c.env) (compNs ns sc.names)→EnvOk (compEnvC sc cl C c.env) (compNs ns sc.names)→ST W Γ (c.comp sc cl C) n (compNs ns sc.names) (compSl ns sc.names sl x xn) cd pc) (eo:EnvOk c.env ns) :
    SE W Γ c n ns sl (.compIf x elt it cd) (.ListComp pe [⟨.Name xn xp,pit,[pc],0⟩] sc pos):=fun m pr ρ Q σ s news X h a =>
  snd_comp_of (Cw:=fun ρ v K σ=>wpE Γ cd (ρ.set x (some v)) K σ) ⟨lo,ca,scOk_of K,fun cl C ca m ρ pr sv Kb σ s news X h a=>wpAny_tests_one (iC cl C ca (comp_eo eo (scOk_of K) cl C) m pr _ Kb σ s news X h a),fun cl C ca=>iE cl C ca (comp_eo eo (scOk_of K) cl C)⟩ hns (ih m pr ρ) h a
theorem snd_assign_comp {x i:Nat} {xn y:Str} {elt it:Mine.E} {pe pit:PySem.Expr} {xp pp tp pos:Pos} {sc:Scope} (lo:c.env.locals = c.L) (ca:CellsAll c.env ns) (K:compScOk ns xn sc = true) (hns:notSet pit = true) (ih:SE W Γ c n ns sl it pit)
    (iE:∀ cl C,CellsAll (compEnvC sc cl C c.env) (compNs ns sc.names)→EnvOk (compEnvC sc cl C c.env) (compNs ns sc.names)→SE W Γ (c.comp sc cl C) n (compNs ns sc.names) (compSl ns sc.names sl x xn) elt pe) (eo:EnvOk c.env ns)
    (hs:stOk ns sl i y = true) (hk:ns.lookup y = some .local) (hl:(tp.line == pp.line) = true) (hn:(sc.names.any fun z=>z.1 == y && (z.2 == .local || z.2 == .cell)) = false) :
    SndS W Γ c n ns sl (.assign i (.comp x elt it)) (.Assign [.Name y tp] (.ListComp pe [⟨.Name xn xp,pit,[],0⟩] sc pp) pos):=fun Q ρ σ s m priv pr news X h a =>
  snd_assign_comp_of (Cw:=fun _ _ K σ=>K (.bool true) σ) ⟨lo,ca,scOk_of K,fun cl C ca m ρ pr sv Kb σ s news X h a=>tests_nil h a,fun cl C ca=>iE cl C ca (comp_eo eo (scOk_of K) cl C)⟩ hns ih hs hk hl hn h a
theorem snd_assign_compIf {x i:Nat} {xn y:Str} {elt it cd:Mine.E} {pe pit pc:PySem.Expr} {xp pp tp pos:Pos} {sc:Scope} (lo:c.env.locals = c.L) (ca:CellsAll c.env ns) (K:compScOk ns xn sc = true) (hns:notSet pit = true) (ih:SE W Γ c n ns sl it pit)
    (iE:∀ cl C,CellsAll (compEnvC sc cl C c.env) (compNs ns sc.names)→EnvOk (compEnvC sc cl C c.env) (compNs ns sc.names)→SE W Γ (c.comp sc cl C) n (compNs ns sc.names) (compSl ns sc.names sl x xn) elt pe)
    (iC:∀ cl C,CellsAll (compEnvC sc cl C c.env) (compNs ns sc.names)→EnvOk (compEnvC sc cl C c.env) (compNs ns sc.names)→ST W Γ (c.comp sc cl C) n (compNs ns sc.names) (compSl ns sc.names sl x xn) cd pc) (eo:EnvOk c.env ns)
    (hs:stOk ns sl i y = true) (hk:ns.lookup y = some .local) (hl:(tp.line == pp.line) = true) (hn:(sc.names.any fun z=>z.1 == y && (z.2 == .local || z.2 == .cell)) = false) :
    SndS W Γ c n ns sl (.assign i (.compIf x elt it cd)) (.Assign [.Name y tp] (.ListComp pe [⟨.Name xn xp,pit,[pc],0⟩] sc pp) pos):=fun Q ρ σ s m priv pr news X h a =>
  snd_assign_comp_of (Cw:=fun ρ v K σ=>wpE Γ cd (ρ.set x (some v)) K σ) ⟨lo,ca,scOk_of K,fun cl C ca m ρ pr sv Kb σ s news X h a=>wpAny_tests_one (iC cl C ca (comp_eo eo (scOk_of K) cl C) m pr _ Kb σ s news X h a),fun cl C ca=>iE cl C ca (comp_eo eo (scOk_of K) cl C)⟩ hns ih hs hk hl hn h a
end
end Mine
end
section
open PySem PySem.W PyProof.Rows PySem.Calls PySem.Spec
namespace Mine
set_option linter.unusedVariables false
structure FnRec where
  name:Str
  qual:Str
  params:Arguments
  body:List Stmt
  scope:Scope
  dV:Value
  kV:Value
  doc:Value
  pm:Value
  an:Option Addr
  cdv:Value
  ct:Value
  oc:Value
  od:Option Addr
  osl:Array (Option Value)
  as:List Str
noncomputable abbrev FnRec.fd (r:FnRec):FuncData:=fnOf r.name r.qual r.params r.body r.scope r.dV r.kV r.doc r.pm r.an r.cdv r.ct
structure FnIn (K:Frag) (fa:Fid→Addr) (f:Fid) (r:FnRec):Prop where
  lk:K.lookup (fa f) = some ⟨r.oc,r.od,.func r.fd,r.osl⟩
  cd:codeIn K r.cdv r.qual = true
  bind:∀ vals:List Value,vals.length = r.as.length→bindArgs r.fd ⟨vals,[]⟩ = pure (r.as.zip vals)
  co:r.scope.isCoroutine = false
  gen:r.scope.isGenerator = false
  kd:r.scope.kind = .function
  nd:((cellsFrom 0 r.scope.names []).map (·.1)).Nodup
  asl:r.as.length = (fnD f).args
  asn:r.as.Nodup
  ass:∀ (i:Nat) (x:Str),r.as[i]? = some x→(slotsOf f)[i]? = some (some x)
  ask:∀ x ∈ r.as,r.scope.names.lookup x = some .local ∨ r.scope.names.lookup x = some .cell
  sd:∀ (i j:Nat) (x:Str),(slotsOf f)[i]? = some (some x)→(slotsOf f)[j]? = some (some x)→i = j
theorem cellsFrom_desc:∀ (names:List (Str × NameKind)) (n:Nat) (acc:List (Str × Addr)),acc.Pairwise (fun a b=>b.2 < a.2)→(∀ p ∈ acc,p.2 < n) →
    (cellsFrom n names acc).Pairwise (fun a b=>b.2 < a.2)
  | [],_,_,h,_=>h
  | (y,k) :: r,n,acc,h,hn=>by
    unfold cellsFrom
    split
    · exact cellsFrom_desc r (n + 1) _ (List.pairwise_cons.mpr ⟨fun p hp=>hn p hp,h⟩) fun p hp=>by
        rcases List.mem_cons.mp hp with rfl | hp
        · exact Nat.lt_succ_self _
        · exact Nat.lt_succ_of_lt (hn p hp)
    · exact cellsFrom_desc r n acc h hn
theorem cellsFrom_ge:∀ (names:List (Str × NameKind)) (n l:Nat) (acc:List (Str × Addr)),l ≤ n→(∀ p ∈ acc,l ≤ p.2)→∀ p ∈ cellsFrom n names acc,l ≤ p.2
  | [],_,_,_,_,h=>h
  | (y,k) :: r,n,l,acc,hl,h=>by
    unfold cellsFrom
    split
    · exact cellsFrom_ge r (n + 1) l _ (Nat.le_succ_of_le hl) fun p hp=>by
        rcases List.mem_cons.mp hp with rfl | hp
        · exact hl
        · exact h p hp
    · exact cellsFrom_ge r n l acc hl h
theorem cellsAre_fst {cm:Str→Option Value}:∀ {cs:List (Str × Addr)} {cells:News1},CellsAre cm cs cells→cells.map (·.1) = cs.map (·.2):=fun h=>by
  induction h with
  | nil=>rfl
  | cons h r ih=>rw [List.map_cons,List.map_cons,ih]
theorem cellsAre_mem {cm:Str→Option Value} {x:Str} {cc:Addr}:∀ {cs:List (Str × Addr)} {cells:News1},CellsAre cm cs cells→(x,cc) ∈ cs→∃ o,(cc,o) ∈ cells∧o.data = .cell (cm x):=fun h h'=>by
  induction h with
  | nil=>exact nomatch h'
  | cons hd r ih =>
    rcases List.mem_cons.mp h' with e | h'
    · cases e; exact ⟨_,.head _,hd⟩
    · obtain ⟨o',h1,h2⟩:=ih h'
      exact ⟨o',.tail _ h1,h2⟩
theorem cellsAre_data {cm:Str→Option Value}:∀ {cs:List (Str × Addr)} {cells:News1},CellsAre cm cs cells→∀ p ∈ cells,∃ v,p.2.data = .cell v:=fun h p hp=>by
  induction h with
  | nil=>exact nomatch hp
  | cons hd r ih =>
    rcases List.mem_cons.mp hp with rfl | hp
    · exact ⟨_,hd⟩
    · exact ih hp
section
variable {W:Wld} {c:Cfg} {n:Nat} {m:Str→Option Value} {priv pr news:News1} {s:Shared} {X:Value→Shared→Prop} {σ:Hp} {ρ:Lc} {ns:Nms} {sl:Sls} {Γ:Cal}
theorem RR.pushCells:∀ {cells:News1},W.R σ priv news→(cells.map (·.1)).Pairwise (fun a b=>b < a)→(∀ q ∈ cells,∀ p ∈ news,p.1 < q.1)→(∀ q ∈ cells,∃ v,q.2.data = .cell v)→W.R σ (cells ++ priv) (cells ++ news)
  | [],R,_,_,_=>R
  | q :: cells,R,hp,hf,hi=>by
    rw [List.map_cons,List.pairwise_cons] at hp
    have R':=RR.pushCells (cells:=cells) R hp.2 (fun q hq=>hf q (.tail _ hq)) fun q hq=>hi q (.tail _ hq)
    obtain ⟨v,hv⟩:=hi q (.head _)
    refine RR.pushP (l:=q.1) (o:=q.2) R' (fun p hp'=>?_) fun C d e=>by rw [e] at hv; cases hv
    rcases List.mem_append.mp hp' with hp' | hp'
    · exact hp.1 _ (List.mem_map_of_mem hp')
    · exact hf q (.head _) p hp'
theorem bindL_other {kindOf:Str→Option NameKind} {x:Str}:∀ {binds:List (Str × Value)} {m:Str→Option Value},(∀ p ∈ binds,p.1 ≠ x)→bindL kindOf binds m x = m x
  | [],_,_=>rfl
  | (y,v) :: r,m,h=>by
    unfold bindL
    rw [bindL_other fun p hp=>h p (.tail _ hp)]
    split
    · exact if_neg (Ne.symm (h _ (.head _)))
    · rfl
theorem bindC_other {kindOf:Str→Option NameKind} {x:Str}:∀ {binds:List (Str × Value)} {m:Str→Option Value},(∀ p ∈ binds,p.1 ≠ x)→bindC kindOf binds m x = m x
  | [],_,_=>rfl
  | (y,v) :: r,m,h=>by
    unfold bindC
    rw [bindC_other fun p hp=>h p (.tail _ hp)]
    split
    · rfl
    · exact if_neg (Ne.symm (h _ (.head _)))
theorem bindL_get {kindOf:Str→Option NameKind} {x:Str} {v:Value} (hk:kindOf x = some .local):∀ {as:List Str} {vals:List Value} {m:Str→Option Value} {i:Nat},as.Nodup→as[i]? = some x→vals[i]? = some v→bindL kindOf (as.zip vals) m x = some v
  | a :: as,u :: vals,m,0,nd,e1,e2=>by
    cases e1; cases e2
    rw [List.nodup_cons] at nd
    show bindL kindOf (as.zip vals) _ x = _
    rw [bindL_other,if_pos hk]
    · exact if_pos rfl
    · rintro ⟨p,q⟩ hp rfl
      exact nd.1 (List.of_mem_zip hp).1
  | a :: as,u :: vals,m,i + 1,nd,e1,e2=>by
    rw [List.nodup_cons] at nd
    show bindL kindOf (as.zip vals) _ x = _
    exact bindL_get hk nd.2 (by simpa using e1) (by simpa using e2)
theorem bindC_get {kindOf:Str→Option NameKind} {x:Str} {v:Value} (hk:kindOf x ≠ some .local):∀ {as:List Str} {vals:List Value} {m:Str→Option Value} {i:Nat},as.Nodup→as[i]? = some x→vals[i]? = some v→bindC kindOf (as.zip vals) m x = some v
  | a :: as,u :: vals,m,0,nd,e1,e2=>by
    cases e1; cases e2
    rw [List.nodup_cons] at nd
    show bindC kindOf (as.zip vals) _ x = _
    rw [bindC_other,if_neg hk]
    · exact if_pos rfl
    · rintro ⟨p,q⟩ hp rfl
      exact nd.1 (List.of_mem_zip hp).1
  | a :: as,u :: vals,m,i + 1,nd,e1,e2=>by
    rw [List.nodup_cons] at nd
    show bindC kindOf (as.zip vals) _ x = _
    exact bindC_get hk nd.2 (by simpa using e1) (by simpa using e2)
theorem rd_start {vs:List SV} {k i:Nat} {sv:SV} (h:rd (vs.map some ++ List.replicate k none) i = some sv):vs[i]? = some sv:=by
  unfold rd at h
  by_cases hi:i < vs.length
  · rw [List.getElem?_append_left (by rw [List.length_map]; exact hi),List.getElem?_map,List.getElem?_eq_getElem hi] at h
    rw [List.getElem?_eq_getElem hi]
    simpa using h
  · rw [List.getElem?_append_right (by rw [List.length_map]; omega),List.getElem?_replicate] at h
    split at h
    · cases h
    · cases h
theorem call_fn {f:Fid} {r:FnRec} (I:FnIn W.K W.fa f r)
    (body:∀ c':Cfg,c'.Ok W n→EnvOk c'.env r.scope.names→c'.env.locals = c'.L→CellsAll c'.env r.scope.names→SndSs W Γ c' n r.scope.names (slotsOf f) (fnD f).body r.body)
    {vs:List SV} {vals:List Value} {Q:SV→Hp→Prop} (hl:vs.length = (fnD f).args)
    (w:wpSs Γ (fnD f).body (fun fl _ σ'=>∃ σ'',Sub σ'' σ'∧Q fl.val σ'') (vs.map some ++ List.replicate ((fnD f).slots - (fnD f).args) none) σ)
    (ok:c.Ok W (n + 1)) (F:Fr c.h₀ c.L s.heap m) (N:News c.h₀ c.L s.heap news) (R:W.R σ priv news) (V:VRs news vs vals) :
    wpAny W.M c.A (call (.ref (W.fa f)) vals) (PE W c m priv s news Q) X s:=by
  refine wpAny_call ?_
  have hvl:vals.length = r.as.length:=by rw [← V.len,hl,I.asl]
  have hzip:∀ x ∈ r.as.zip vals,x.1 ∈ r.as:=fun x hx=>(List.of_mem_zip hx).1
  refine callX_cells ok.B F N ok.T.nolimit ok.hA ok.hf ok.hk ((ok.X.keeps F.keep) _ _ I.lk) rfl (codeRec_of (ok.X.keeps F.keep) I.cd) (by have:=ok.hd; show c.A.depth < 1000; omega) (BindsTo.of_eq (I.bind vals hvl))
    (kindsX (by
      rw [List.all_eq_true]
      intro x hx
      rcases I.ask _ (hzip x hx) with h | h
      · rw [h]; rfl
      · rw [h]; rfl)) I.nd (fun g L' h₁ tk cells FG F' N' Y B' st l=>?_) I.co I.gen I.kd
  have hks:∀ b o,c.h₀.get? b = some o→g.get? b = some o:=fun b o e=>st b o e
  let env':Env:=envOfC r.qual r.scope L' (W.fa f) r.cdv
  let c':Cfg:={ A₀:=c.A,A:=c.A.deeper env',base:=c.base,outer:=c.fenv :: c.outer,h₀:=g,fenv:=env',L:=L',env:=env' }
  have ok':c'.Ok W n:=⟨B',Around.frames_deeper ok.hA,rfl,I.kd,ok.hh,ok.X.keeps st,ok.T.keeps hks,by have:=ok.hd; show c.A.depth + 1 + n < 600; omega,by have:=ok.hu; show c.A.units + 3 + 3 * n < 9000; omega⟩
  have eo:EnvOk c'.env r.scope.names:=⟨I.kd,rfl,rfl,rfl⟩
  have ca:CellsAll c'.env r.scope.names:=fun y hy=>Option.isSome_iff_exists.mp (cellsFrom_some _ _ _ (.inl hy))
  have hdesc:=cellsFrom_desc r.scope.names (L' + 1) [] .nil fun _ h=>nomatch h
  have hge:=cellsFrom_ge r.scope.names (L' + 1) (L' + 1) [] (Nat.le_refl _) fun _ h=>nomatch h
  have hfst:=cellsAre_fst Y
  have cge:∀ q ∈ cells,L' + 1 ≤ q.1:=fun q hq=>by
    have:q.1 ∈ (cellsFrom (L' + 1) r.scope.names []).map (·.2):=by rw [← hfst]; exact List.mem_map_of_mem hq
    obtain ⟨p,hp,e⟩:=List.mem_map.mp this
    rw [← e]
    exact hge p hp
  have R':W.R σ (cells ++ priv) (cells ++ news):=by
    refine RR.pushCells R ?_ (fun q hq p hp=>Nat.lt_of_lt_of_le (Nat.lt_succ_of_lt (l p hp)) (cge q hq)) (cellsAre_data Y)
    rw [hfst,List.pairwise_map]
    exact hdesc
  have P₀:Per news (cells ++ news):=Per.of fun p hp=>List.mem_append_right _ hp
  have at₀:AtS W c' n (bindL env'.kindOf (r.as.zip vals) fun _=>none) priv (cells ++ priv) (cells ++ news) { s with heap:=h₁,toks:=tk } σ (vs.map some ++ List.replicate ((fnD f).slots - (fnD f).args) none) r.scope.names (slotsOf f):=by
    refine ⟨⟨ok',eo,F',N',R',fun i x sv h1 h2=>?_⟩,rfl,⟨fun p hp=>List.mem_append_right _ hp,fun x hx=>?_,fun x y cc e1 e2=>?_⟩,I.sd⟩
    · have e1:=rd_start h2
      obtain ⟨v,e2,V2⟩:=V.get e1
      have hi:i < vs.length:=(List.getElem?_eq_some_iff.mp e1).1
      have hia:i < r.as.length:=by rw [I.asl,← hl]; exact hi
      have e3:=I.ass i _ (List.getElem?_eq_getElem hia)
      rw [e3] at h1
      cases h1
      refine ⟨v,V2.mono P₀,?_⟩
      rcases I.ask _ (List.getElem_mem hia) with h | h
      · exact .inl ⟨h,rfl,bindL_get h I.asn (List.getElem?_eq_getElem hia) e2⟩
      · obtain ⟨cc,hcc⟩:=ca _ h
        obtain ⟨o,ho,hd⟩:=cellsAre_mem Y (mem_lookup hcc)
        refine .inr (.inr ⟨h,cc,o,hcc,List.mem_append_left _ ho,?_⟩)
        rw [hd,bindC_get (by show env'.kindOf _ ≠ _; intro q; have q':r.scope.names.lookup _ = _:=q; rw [h] at q'; cases q') I.asn (List.getElem?_eq_getElem hia) e2]
    · obtain ⟨cc,hcc⟩:=ca _ hx
      obtain ⟨o,ho,hd⟩:=cellsAre_mem Y (mem_lookup hcc)
      refine ⟨cc,o,_,hcc,List.mem_append_left _ ho,hd,fun hm=>?_⟩
      obtain ⟨p,hp,e⟩:=List.mem_map.mp hm
      have h1:=l p (R.pv p hp)
      have h2:=cge _ ho
      rw [e] at h1
      exact absurd (Nat.lt_of_lt_of_le h1 (Nat.le_trans (Nat.le_succ _) h2)) (Nat.lt_irrefl _)
    · have m1:=mem_lookup e1
      have m2:=mem_lookup e2
      by_cases q:x = y
      · exact q
      · exfalso
        have key:∀ (cs:List (Str × Addr)),cs.Pairwise (fun a b=>b.2 < a.2)→(x,cc) ∈ cs→(y,cc) ∈ cs→False:=by
          intro cs
          induction cs with
          | nil=>intro _ h _; cases h
          | cons p t ih =>
            intro hp h1 h2
            rw [List.pairwise_cons] at hp
            rcases List.mem_cons.mp h1 with h1 | h1
            · rcases List.mem_cons.mp h2 with h2 | h2
              · rw [← h1] at h2; cases h2; exact q rfl
              · have:=hp.1 _ h2; rw [← h1] at this; exact Nat.lt_irrefl _ this
            · rcases List.mem_cons.mp h2 with h2 | h2
              · have:=hp.1 _ h1; rw [← h2] at this; exact Nat.lt_irrefl _ this
              · exact ih hp.2 h1 h2
        exact key _ hdesc m1 m2
  refine wpAny_mono (body c' ok' eo rfl ca _ _ _ _ _ priv _ _ (fun _ _=>False) w at₀) (fun fl s' z=>?_) fun _ _ x=>x.elim
  obtain ⟨h',tk',m',pr',news',ρ',σ',g',rfl,a',P',r',σ'',hsub,q⟩:=z
  refine ⟨L',m',news',a'.at_.F,a'.at_.N,fun F2 N2=>?_⟩
  have R2:W.R σ'' priv news':=(a'.at_.R.less a'.ci.sub).sub hsub
  refine ⟨h',tk',news',g'.val,σ'',rfl,F2,N2,R2,P₀.trans P',?_,q⟩
  cases g' with
  | next=>cases fl <;> first | exact r'.elim | exact VR.none
  | ret sv=>cases fl <;> first | exact r'.elim | exact r'
end
end Mine
end
section
open PySem PySem.W PyProof.Rows PySem.Calls PySem.Spec
namespace Mine
set_option linter.unusedVariables false
inductive Src where
  | name (x:Str) | int (i:Int) | bool (b:Bool) | none
  deriving DecidableEq
noncomputable def srcC:Const→Option Src
  | .int i=>some (.int i)
  | .bool b=>some (.bool b)
  | .none=>some .none
  | _=>Option.none
noncomputable def srcOf:PySem.Expr→Option Src
  | .Name x _=>if x == ("__debug__":Str) then Option.none else some (.name x)
  | .Constant c _ _=>srcC c
  | _=>Option.none
theorem srcOf_ind {P:PySem.Expr→Option Src→Prop} (h1:∀ x p,(x == ("__debug__":Str)) = false→P (.Name x p) (some (.name x))) (h2:∀ i k p,P (.Constant (.int i) k p) (some (.int i))) (h3:∀ b k p,P (.Constant (.bool b) k p) (some (.bool b))) (h4:∀ k p,P (.Constant .none k p) (some .none))
    (hb:∀ v,P v Option.none) (v:PySem.Expr):P v (srcOf v):=by
  cases v <;> first | exact hb _ | skip
  case Name x p =>
    show P _ (if x == ("__debug__":Str) then Option.none else some (Src.name x))
    cases c:x == ("__debug__":Str) with
    | true=>exact hb _
    | false=>exact h1 x p c
  case Constant c k p=>cases c <;> first | exact hb _ | exact h2 .. | exact h3 .. | exact h4 ..
noncomputable def selfName (x:Str):PySem.Expr→Option Str
  | .Name y _=>if y == ("self":Str) then some x else Option.none
  | _=>Option.none
noncomputable def selfAttr:PySem.Expr→Option Str
  | .Attribute o x _=>selfName x o
  | _=>Option.none
noncomputable def asgSelf1 (v:PySem.Expr):List PySem.Expr→Option (Str × PySem.Expr)
  | []=>Option.none
  | t :: r=>match r with
    | []=>if notComp v then (selfAttr t).map fun x=>(x,v) else Option.none
    | _=>Option.none
noncomputable def asgSelf:Stmt→Option (Str × PySem.Expr)
  | .Assign ts v _=>asgSelf1 v ts
  | _=>Option.none
theorem selfAttr_ind {P:PySem.Expr→Option Str→Prop} (h:∀ x yp ap,P (.Attribute (.Name ("self":Str) yp) x ap) (some x)) (hb:∀ e,P e Option.none) (e:PySem.Expr):P e (selfAttr e):=by
  cases e <;> first | exact hb _ | skip
  case Attribute o y ap =>
  cases o <;> first | exact hb _ | skip
  case Name z yp =>
  show P _ (if z == ("self":Str) then some y else Option.none)
  cases c:z == ("self":Str) with
  | false=>exact hb _
  | true=>rw [beq_iff_eq.mp c]; exact h y yp ap
theorem asgSelf_ind {P:Stmt→Option (Str × PySem.Expr)→Prop} (h:∀ x v yp ap pos,notComp v = true→P (.Assign [.Attribute (.Name ("self":Str) yp) x ap] v pos) (some (x,v))) (hb:∀ e,P e Option.none) (st:Stmt):P st (asgSelf st):=by
  cases st <;> first | exact hb _ | skip
  case Assign ts v pos =>
  cases ts with
  | nil=>exact hb _
  | cons t r =>
    cases r with
    | cons _ _=>exact hb _
    | nil =>
      show P _ (if notComp v then (selfAttr t).map fun x=>(x,v) else Option.none)
      cases c:notComp v with
      | false=>exact hb _
      | true=>exact selfAttr_ind (P:=fun t o=>P (.Assign [t] v pos) (o.map fun x=>(x,v))) (fun x yp ap=>h x v yp ap pos c) (fun _=>hb _) t
theorem asgSelf_some {st:Stmt} {q:Str × PySem.Expr}:asgSelf st = some q→∃ yp ap pos,st = .Assign [.Attribute (.Name ("self":Str) yp) q.1 ap] q.2 pos∧notComp q.2 = true :=
  asgSelf_ind (P:=fun st o=>o = some q→∃ yp ap pos,st = .Assign [.Attribute (.Name ("self":Str) yp) q.1 ap] q.2 pos∧notComp q.2 = true) (fun x v yp ap pos c e=>by cases e; exact ⟨yp,ap,pos,rfl,c⟩) (fun _=>noneSome) st
noncomputable def initRun:List Stmt→Option (List (Fld × Src))
  | []=>some []
  | st :: r=>(asgSelf st).bind fun q=>(allFlds.find? (fun f=>f.nm == q.1)).bind fun f=>(srcOf q.2).bind fun s=>(initRun r).map ((f,s) :: ·)
noncomputable def srcV (av:Str→Option SV):Src→Option SV
  | .name x=>av x
  | .int i=>some (.int i)
  | .bool b=>some (.bool b)
  | .none=>some .none
inductive Ents:List (Fld × SV)→List DictEntry→Prop
  | nil:Ents [] []
  | cons {f:Fld} {sv:SV} {v:Value} {d:List (Fld × SV)} {es:List DictEntry} (h:Int) (t:Tok):VR [] sv v→Ents d es→Ents ((f,sv) :: d) (⟨h,.str f.nm t,v⟩ :: es)
theorem isStr_str {x y:Str} {t:Tok}:(Value.str x t).isStr y = decide (x = y):=by
  unfold Value.isStr
  first
    | (show (x == y) = _; exact Bool.beq_eq_decide_eq x y)
    | (show (y == x) = _; rw [Bool.beq_eq_decide_eq]; exact decide_eq_decide.mpr eq_comm)
theorem Ents.put {hs:Int} {k:Tok} {v:Value} {f:Fld} {sv:SV} (hv:VR [] sv v):∀ {d:List (Fld × SV)} {es:List DictEntry},Ents d es→f ∉ d.map (·.1)→Ents (d ++ [(f,sv)]) (putL f.nm hs (.str f.nm k) v es):=fun h=>by
  induction h with
  | nil=>exact fun _=>.cons _ _ hv .nil
  | cons h t hw _ ih =>
    intro hn
    rw [List.map_cons,List.mem_cons,not_or] at hn
    unfold putL
    rw [if_neg (by rw [isStr_str]; simp only [decide_eq_true_eq]; exact fun e=>hn.1 (nm_inj e).symm)]
    exact .cons _ _ hw (ih hn.2)
theorem Ents.len:∀ {d:List (Fld × SV)} {es:List DictEntry},Ents d es→es.length = d.length:=fun h=>by
  induction h with
  | nil=>rfl
  | cons _ _ _ _ ih=>rw [List.length_cons,List.length_cons,ih]
theorem Ents.getL (x:Str):∀ {d:List (Fld × SV)} {es:List DictEntry},Ents d es→(PySem.W.getL x es).isSome = true:=by
  intro d es h
  unfold PySem.W.getL
  split
  · rfl
  · have:(es.any (·.refKey)) = false:=by
      induction h with
      | nil=>rfl
      | cons h t _ r ih =>
        rename_i hq _ _
        rw [List.any_cons,ih (by
          rename_i hx
          rw [List.find?_cons] at hx
          split at hx
          · cases hx
          · exact hx)]
        rfl
    rw [this]
    rfl
theorem Ents.find:∀ {d:List (Fld × SV)} {es:List DictEntry} {f:Fld} {sv:SV},Ents d es→d.find? (fun p=>p.1 = f) = some (f,sv)→∃ e,es.find? (fun e=>e.key.isStr f.nm) = some e∧VR [] sv e.val
  | _,_,f,sv,.nil,e=>by cases e
  | _,_,f,sv,.cons (f:=g) h t hw r,e=>by
    rw [List.find?_cons] at e ⊢
    by_cases q:g = f
    · subst q
      simp only [decide_true] at e
      cases e
      exact ⟨⟨h,.str g.nm t,_⟩,by simp only [isStr_str,decide_true],hw⟩
    · simp only [decide_eq_false q] at e
      obtain ⟨e',h1,h2⟩:=r.find e
      refine ⟨e',?_,h2⟩
      have:decide (g.nm = f.nm) = false:=decide_eq_false fun z=>q (nm_inj z)
      simp only [isStr_str,this]
      exact h1
section
variable {W:Wld} {c:Cfg} {n:Nat} {m:Str→Option Value} {priv pr news:News1} {s:Shared} {X:Value→Shared→Prop} {σ:Hp} {ρ:Lc} {ns:Nms} {sl:Sls} {Γ:Cal}
theorem RR.allocInst (R:W.R σ priv news) {C x d:Addr} {es:List DictEntry} {k:Nat} {so:SO} (hC:(∃ r,so = .node r∧C = W.cl.node) ∨ ∃ r,so = .tree r∧C = W.cl.tree) (hd:∀ p ∈ news,p.1 < d) (hx:d < x) (he:EsR news so.get es) :
    W.R (upd σ x so) priv ((x,instObj C d) :: (d,dictOf es k) :: news):=by
  have hxn:∀ p ∈ news,p.1 < x:=fun p hp=>Nat.lt_trans (hd p hp) hx
  have np:∀ {y:Addr},(∀ p ∈ news,p.1 < y)→y ∉ priv.map (·.1):=fun hy hm=>by
    obtain ⟨p,hp,e⟩:=List.mem_map.mp hm
    exact absurd (hy p (R.pv p hp)) (by rw [e]; exact Nat.lt_irrefl _)
  have nn:∀ {y:Addr},(∀ p ∈ news,p.1 < y)→y ∉ news.map (·.1):=fun hy hm=>by
    obtain ⟨p,hp,e⟩:=List.mem_map.mp hm
    exact absurd (hy p hp) (by rw [e]; exact Nat.lt_irrefl _)
  have inj:∀ {a C' d':Addr},(a,instObj C' d') ∈ (x,instObj C d) :: (d,dictOf es k) :: news→(a = x∧d' = d) ∨ (a,instObj C' d') ∈ news:=fun h=>by
    rcases List.mem_cons.mp h with e | h
    · cases e; exact .inl ⟨rfl,rfl⟩
    · rcases List.mem_cons.mp h with e | h
      · exact absurd (congrArg Prod.snd e).symm (dictOf_inst _ _)
      · exact .inr h
  have sub:∀ p ∈ news,p ∈ (x,instObj C d) :: (d,dictOf es k) :: news:=fun p hp=>.tail _ (.tail _ hp)
  refine ⟨?_,fun p hp=>sub p (R.pv p hp),fun a o e=>?_,fun a b C1 C2 d' h1 h2=>?_,fun a C' d' h1=>?_,fun a C' d' h1=>?_⟩
  · rw [List.map_cons,List.map_cons,List.nodup_cons,List.nodup_cons]
    refine ⟨fun hm=>?_,nn hd,R.nd⟩
    rcases List.mem_cons.mp hm with e | hm
    · exact absurd hx (by rw [show x = d from e]; exact Nat.lt_irrefl _)
    · exact nn hxn hm
  · by_cases ha:a = x
    · subst ha
      rw [upd_same] at e
      cases e
      refine ⟨np hxn,?_⟩
      rcases hC with ⟨r,rfl,hC⟩ | ⟨r,rfl,hC⟩
      · exact ⟨d,es,k,by rw [← hC]; exact .head _,.tail _ (.head _),np hd,he.mono (Per.of sub)⟩
      · exact ⟨d,es,k,by rw [← hC]; exact .head _,.tail _ (.head _),np hd,he.mono (Per.of sub)⟩
    · rw [upd_ne _ _ ha] at e
      exact ⟨(R.ob a o e).1,(R.ob a o e).2.mono sub⟩
  · rcases inj h1 with ⟨u1,u2⟩ | g1
    · rcases inj h2 with ⟨w1,_⟩ | g2
      · rw [u1,w1]
      · exact absurd (u2 ▸ R.ud _ _ _ g2) (nn hd)
    · rcases inj h2 with ⟨w1,w2⟩ | g2
      · exact absurd (w2 ▸ R.ud _ _ _ g1) (nn hd)
      · exact R.ui _ _ _ _ d' g1 g2
  · rcases inj h1 with ⟨_,u2⟩ | g1
    · rw [u2]; exact .tail _ (.head _)
    · exact .tail _ (.tail _ (R.ud _ _ _ g1))
  · rcases inj h1 with ⟨_,u2⟩ | g1
    · rw [u2]; exact np hd
    · exact R.pi _ _ _ g1
theorem init_loop (KC:W.Clss) {C:Addr} (hC:C = W.cl.node ∨ C = W.cl.tree) {env:Env} {A:Around} {g:Heap} {L' x d:Addr} {mm:Str→Option Value} {av:Str→Option SV} (hk:env.scope.kind = .function) (hl:env.locals = L') (X₀:W.K.In g)
    (hself:env.kindOf ("self":Str) = some .local∧mm ("self":Str) = some (.ref x)) (hav:∀ y sv,av y = some sv→env.kindOf y = some .local∧∃ u,mm y = some u∧VR [] sv u) (hd:∀ p ∈ news,p.1 < d) (hx:d < x) :
    ∀ (body:List Stmt) (srcs:List (Fld × Src)) (vals done:List (Fld × SV)) (es:List DictEntry) (k:Nat) (s:Shared) (X:Value→Shared→Prop),initRun body = some srcs→srcs.map (fun p=>(p.1,srcV av p.2)) = vals.map (fun p=>(p.1,some p.2))→((done ++ vals).map (·.1)).Nodup→(done ++ vals).length ≤ 20 →
      Fr g L' s.heap mm→News g L' s.heap ((x,instObj C d) :: (d,dictOf es k) :: news)→Ents done es →
      wpAny W.M A (execs body env) (fun fl s'=>fl = .next∧∃ h' tk es' k',s' = { s with heap:=h',toks:=tk }∧Fr g L' h' mm∧News g L' h' ((x,instObj C d) :: (d,dictOf es' k') :: news)∧Ents (done ++ vals) es') X s
  | [],srcs,vals,done,es,k,s,X,e,ev,_,_,F,N,E=>by
    cases e
    cases vals with
    | nil=>exact wpAny_execs_nil ⟨rfl,s.heap,s.toks,es,k,rfl,F,N,by rw [List.append_nil]; exact E⟩
    | cons v r=>cases ev
  | st :: body,srcs,vals,done,es,k,s,X,e,ev,nd,hz,F,N,E=>by
    obtain ⟨⟨xx,v⟩,e0,g0⟩:=Option.bind_eq_some_iff.mp (show ((asgSelf st).bind fun q=>(allFlds.find? (fun f=>f.nm == q.1)).bind fun f=>(srcOf q.2).bind fun s=>(initRun body).map ((f,s) :: ·)) = some srcs from e)
    clear e
    obtain ⟨yp,ap,pos,rfl,hc⟩:=asgSelf_some e0
    obtain ⟨f,e1,g1⟩:=Option.bind_eq_some_iff.mp g0
    obtain ⟨sr,e2,g2⟩:=Option.bind_eq_some_iff.mp g1
    obtain ⟨rs,e3,rfl⟩:=Option.map_eq_some_iff.mp g2
    clear e0 g0 g1 g2
    dsimp only at e1 e2 hc ⊢
    have hfx:f.nm = xx:=by have:=List.find?_some e1; simpa using this
    subst hfx
    cases vals with
    | nil=>cases ev
    | cons val vals =>
      obtain ⟨f',sv⟩:=val
      rw [List.map_cons,List.map_cons,List.cons.injEq] at ev
      obtain ⟨ev1,ev2⟩:=ev
      rw [Prod.mk.injEq] at ev1
      obtain ⟨rfl,ev1⟩:=ev1
      have nf:f ∉ done.map (·.1):=by
        rw [List.map_append,List.nodup_append] at nd
        intro hm
        exact nd.2.2 f hm f (by simp) rfl
      have step:∀ u tk,VR [] sv u→wpAny W.M A (eval (.Name ("self":Str) yp) env) (fun ov s₂=>wpAny W.M A (setAttr ov f.nm u) (fun _ s₃=>wpAny W.M A (execs body env)
          (fun fl s'=>fl = .next∧∃ h' tk es' k',s' = { s with heap:=h',toks:=tk }∧Fr g L' h' mm∧News g L' h' ((x,instObj C d) :: (d,dictOf es' k') :: news)∧Ents (done ++ (f,sv) :: vals) es') X s₃) X s₂) X { s with toks:=tk }:=fun u tk V=>by
        refine wpAny_Name (wpAny_loadName_local hk hself.1 (by rw [hl]; exact F.ns) hself.2 ?_) (by decide)
        refine set_dict (K:=W.K) (s:={ s with toks:=tk }) F X₀ N (InstAt.of_news N (.head _) (.tail _ (.head _))) rfl (KC.sa C hC) (KC.po C hC) (KC.tk C hC f) (KC.hd C hC) (E.getL _) rfl (.tail (Nat.ne_of_gt hx) (.head fun p hp=>Nat.ne_of_lt (hd p hp))) ?_ fun h' F' N'=>?_
        · have:=(E.put (hs:=PyData.keyHash W.w.params f.nm) (k:=tk + 1) V nf).len
          rw [this]
          rw [List.length_append] at hz ⊢
          simp only [List.length_cons,List.length_nil] at hz ⊢
          omega
        · have:=init_loop KC hC (A:=A) hk hl X₀ hself hav hd hx body rs vals (done ++ [(f,sv)]) _ _ { s with heap:=h',toks:=tk + 2 } X e3 ev2 (by rw [List.append_assoc]; exact nd) (by rw [List.append_assoc]; exact hz) F' N' (E.put V nf)
          rw [List.append_assoc] at this
          exact this
      refine wpAny_execs_cons (plainObj_wpAny_Assign_Attribute ?_ (swaps_none hc))
      revert e2 ev1
      refine srcOf_ind (P:=fun v o=>o = some sr→srcV av sr = some sv→wpAny W.M A (eval v env) _ X s) ?_ ?_ ?_ ?_ (fun _=>noneSome) v
      · intro y q1 hdb e2 ev1
        cases e2
        obtain ⟨h1,u,h2,V⟩:=hav _ _ ev1
        refine wpAny_Name (wpAny_loadName_local hk h1 (by rw [hl]; exact F.ns) h2 ?_) hdb
        exact step u s.toks V
      · intro i k1 q1 e2 ev1
        cases e2
        cases ev1
        show wpAny _ _ (mkInt _) _ _ _
        unfold mkInt
        exact wpAny_bind (wpAny_fresh (wpAny_pure (step _ _ (VR.int _ _))))
      · intro b k1 q1 e2 ev1
        cases e2
        cases ev1
        exact Constant_bool (step _ s.toks (VR.bool _))
      · intro k1 q1 e2 ev1
        cases e2
        cases ev1
        exact Constant_none (step _ s.toks VR.none)
end
end Mine
end
section
open PySem PySem.W PyProof.Rows PySem.Calls PySem.Spec
namespace Mine
set_option linter.unusedVariables false
noncomputable def initNames:List Str:=["self","number","begin","end","front_advance","rear_advance"]
noncomputable def initSrcs:List (Fld × Src):=[(.number,.name "number"),(.begin_,.name "begin"),(.end_,.name "end"),(.front,.name "front_advance"),(.rear,.name "rear_advance"),(.limit,.name "end"),(.offset,.int 0),(.red,.bool false),(.left,.none),(.right,.none),(.parent,.none)]
structure InitIn (K:Frag) (C fI:Addr) (r:FnRec) (nms:List Str) (srcs:List (Fld × Src)):Prop where
  mak:makesIn K C = true
  fi:findIn K (.ref C) "__init__" = some (some (.ref fI))
  fn:isFn K (.ref fI) = true
  kp:keepIn K (.ref C) = true
  lk:K.lookup fI = some ⟨r.oc,r.od,.func r.fd,r.osl⟩
  cd:codeIn K r.cdv r.qual = true
  bind:∀ vals:List Value,vals.length = nms.length→bindArgs r.fd ⟨vals,[]⟩ = pure (nms.zip vals)
  co:r.scope.isCoroutine = false
  gen:r.scope.isGenerator = false
  kd:r.scope.kind = .function
  cells:∀ x ∈ r.scope.names,x.2 ≠ .cell
  ask:∀ x ∈ nms,r.scope.names.lookup x = some .local
  run:initRun r.body = some srcs
section
variable {W:Wld} {c:Cfg} {n:Nat} {m:Str→Option Value} {priv pr news:News1} {s:Shared} {X:Value→Shared→Prop} {σ:Hp} {ρ:Lc} {ns:Nms} {sl:Sls} {Γ:Cal}
theorem snd_newNode (KC:W.Clss) {fI:Addr} {r:FnRec} (I:InitIn W.K W.cl.node fI r initNames initSrcs) (hgl:nsIn W.K mainGlobals ("OverlayNode":Str) = some (some (.ref W.cl.node))) {es:Mine.Es} {x:Str} {ps:List PySem.Expr} {pos p:Pos}
    (hx:(x == ("OverlayNode":Str)) = true) (hg:globOk ns x = true) (hst:ps.all notStar = true) (hne:ps ≠ []) (ih:SndEs W Γ c n m priv ρ ns sl es ps) :
    SndE W Γ c n m priv ρ ns sl (.newNode es) (.Call (.Name x p) ps [] pos):=fun Q σ s news X h a=>by
  obtain rfl:=beq_iff_eq.mp hx
  refine Call_ (a.glob hg hgl ?_)
  cases ps with
  | nil=>exact absurd rfl hne
  | cons p₁ pr =>
    simp only [List.all_cons,Bool.and_eq_true] at hst
    refine callWith_K a.ok.X I.kp (ih.then a h fun h₁ t₁ n₁ svs σ₁ vals a₁ P₁ V₁ q=>⟨a₁.ok.X.keeps a₁.F.keep,?_⟩) (star_cons hst.1) (star_none hst.2)
    rw [List.nil_append]
    obtain ⟨en,eb,ee,ef,er,rfl,q⟩:=q
    · obtain ⟨v1,u1,rfl,⟨t1,e1⟩,V1⟩:=V₁.cons_of
      obtain ⟨v2,u2,rfl,⟨t2,e2⟩,V2⟩:=V1.cons_of
      obtain ⟨v3,u3,rfl,⟨t3,e3⟩,V3⟩:=V2.cons_of
      obtain ⟨v4,u4,rfl,e4,V4⟩:=V3.cons_of
      obtain ⟨v5,u5,rfl,e5,V5⟩:=V4.cons_of
      obtain rfl:=V5.nil_of
      refine call_cls a₁.F a₁.ok.X a₁.N I.mak I.fi I.fn fun xa dx h₂ F₂ N₂ hd hx=>?_
      have ok:=a₁.ok
      refine callX_plain (cl:=[]) ok.B F₂ N₂ ok.T.nolimit ok.hA ok.hf ok.hk ((ok.X.keeps F₂.keep) _ _ I.lk) rfl (codeRec_of (ok.X.keeps F₂.keep) I.cd) (by have:=ok.hd; rw [depth_under_make]; show c.A.depth + 1 < 1000; omega) (BindsTo.of_eq (I.bind (.ref xa :: [v1,v2,v3,v4,v5]) rfl))
        (fun y hy=>I.ask _ (List.of_mem_zip hy).1) (fun g L' h₃ FG F' N' B' st l=>?_) I.cells I.co I.gen I.kd
      refine wpAny_mono (init_loop (W:=W) KC (.inl rfl) (env:=envX r.qual r.scope L' fI r.cdv []) (av:=fun y=>(initNames.zip [SV.none,.int en,.int eb,.int ee,.bool ef,.bool er]).tail.lookup y) I.kd rfl (ok.X.keeps st) ⟨I.ask _ (.head _),rfl⟩ (fun y sv hy=>?_) hd hx r.body initSrcs
        [(.number,.int en),(.begin_,.int eb),(.end_,.int ee),(.front,.bool ef),(.rear,.bool er),(.limit,.int ee),(.offset,.int 0),(.red,.bool false),(.left,.none),(.right,.none),(.parent,.none)] [] [] 0 _ (fun _ _=>False) I.run rfl (by show [Fld.number,Fld.begin_,Fld.end_,Fld.front,Fld.rear,Fld.limit,Fld.offset,Fld.red,Fld.left,Fld.right,Fld.parent].Nodup; decide) (by show 11 ≤ 20; decide) F' N' .nil) (fun fl s' z=>?_) fun _ _ x=>x.elim
      · have mem:=mem_lookup hy
        have cases5:(y,sv) = (("number":Str),SV.int en) ∨ (y,sv) = (("begin":Str),SV.int eb) ∨ (y,sv) = (("end":Str),SV.int ee) ∨ (y,sv) = (("front_advance":Str),SV.bool ef) ∨ (y,sv) = (("rear_advance":Str),SV.bool er):=by
          simpa [initNames] using mem
        rcases cases5 with e | e | e | e | e
        · cases e; exact ⟨I.ask _ (.tail _ (.head _)),v1,rfl,t1,e1⟩
        · cases e; exact ⟨I.ask _ (.tail _ (.tail _ (.head _))),v2,rfl,t2,e2⟩
        · cases e; exact ⟨I.ask _ (.tail _ (.tail _ (.tail _ (.head _)))),v3,rfl,t3,e3⟩
        · cases e; exact ⟨I.ask _ (.tail _ (.tail _ (.tail _ (.tail _ (.head _))))),v4,rfl,e4⟩
        · cases e; exact ⟨I.ask _ (.tail _ (.tail _ (.tail _ (.tail _ (.tail _ (.head _)))))),v5,rfl,e5⟩
      · obtain ⟨rfl,h₄,t₄,es',k',rfl,F₄,N₄,E₄⟩:=z
        refine ⟨L',_,_,F₄,N₄,fun F₅ N₅=>⟨rfl,?_⟩⟩
        rw [List.nil_append] at E₄
        have hes:EsR n₁ (Nd.get { number:=en,begin_:=eb,end_:=ee,front:=ef,rear:=er,limit:=ee,offset:=0,red:=false,left:=none,right:=none,parent:=none }) es':=by
          refine ⟨by rw [E₄.len]; show 11 ≤ 20; decide,fun f w hf=>?_⟩
          have fin:∀ {sv:SV},(List.find? (fun p:Fld × SV=>decide (p.1 = f)) [(.number,.int en),(.begin_,.int eb),(.end_,.int ee),(.front,.bool ef),(.rear,.bool er),(.limit,.int ee),(.offset,.int 0),(.red,.bool false),(.left,.none),(.right,.none),(.parent,.none)]) = some (f,sv)→sv = w →
              ∃ e,es'.find? (fun e=>e.key.isStr f.nm) = some e∧VR n₁ w e.val:=fun hh e=>by
            subst e
            obtain ⟨e,g1,g2⟩:=E₄.find hh
            exact ⟨e,g1,g2.mono (n:=[]) (n':=n₁) (fun _ _ h=>nomatch h)⟩
          cases f <;> first | (cases hf; exact fin rfl rfl) | cases hf
        have R₅:=RR.allocInst (k:=k') (so:=.node _) a₁.R (.inl ⟨_,rfl,rfl⟩) hd hx hes
        exact ⟨h₄,t₄,_,.ref xa,_,rfl,F₅,N₅,R₅,P₁.trans (Per.of fun p hp=>.tail _ (.tail _ hp)),VR.ref xa,q xa (a₁.R.free fun p hp=>Nat.lt_trans (hd p hp) hx)⟩
end
end Mine
end
section
open PySem PySem.W PyProof.Rows PySem.Calls PySem.Spec
namespace Mine
set_option linter.unusedVariables false
structure Wld.All (W:Wld) (fI:Addr) (r:FnRec):Prop where
  KF:W.Fns
  KC:W.Clss
  ab:nsIn W.K mainGlobals ("abs":Str) = some none
  I:InitIn W.K W.cl.node fI r initNames initSrcs
  gl:nsIn W.K mainGlobals ("OverlayNode":Str) = some (some (.ref W.cl.node))
section
variable {W:Wld} {n:Nat} {Γ:Cal} {fI:Addr} {r:FnRec} {c:Cfg} {ns:Nms} {sl:Sls}
theorem snd_negC {i:Nat} {k:Nat} {pos pos':Pos}:SE W Γ c n ns sl (.negC i) (.UnaryOp .USub (.Constant (.int i) k pos) pos'):=fun m pr ρ Q σ s news X h a=>by
  refine UnaryOp_ ?_
  show wpAny _ _ (mkInt i) _ _ _
  unfold mkInt
  refine wpAny_bind (wpAny_fresh (wpAny_pure (neg_int ?_)))
  exact ⟨s.heap,s.toks + 1 + 1,_,_,σ,rfl,a.F,a.N,a.R,Per.refl,VR.int _ _,h⟩
noncomputable def Snd (W:Wld) (Γ:Cal) (n:Nat) (c:Cfg) (ns:Nms) (sl:Sls) (e:Mine.E) (p:PySem.Expr):Prop:=SE W Γ c n ns sl e p∧ST W Γ c n ns sl e p
theorem Snd.bad {p:PySem.Expr}:Snd W Γ n c ns sl .bad p:=⟨fun m pr ρ Q σ s news X h a=>h.elim,fun m pr ρ Q σ s news X h a=>h.elim⟩
theorem Snd.pl {e:Mine.E} {p:PySem.Expr} (h:plainT p = true) (ih:SE W Γ c n ns sl e p):Snd W Γ n c ns sl e p:=⟨ih,fun m pr ρ=>sndT_plain h (ih m pr ρ)⟩
theorem snds_of {g:PySem.Expr→Mine.E} (ih:∀ p,SE W Γ c n ns sl (g p) p):∀ ps:List PySem.Expr,ps.all notStar = true→SEs W Γ c n ns sl (esOf g ps) ps
  | [],_=>fun m pr ρ=>snds_nil
  | p :: ps,h=>fun m pr ρ=>by
    rw [List.all_cons,Bool.and_eq_true] at h
    exact snds_cons h.1 (ih p m pr ρ) (snds_of ih ps h.2 m pr ρ)
theorem fldOf_some {x:Str} {f:Fld} (h:fldOf x = some f):(x == f.nm) = true:=by
  unfold fldOf at h
  have:=List.find?_some h
  exact this
theorem fidOf_some {x:Str} {f:Fid} (h:fidOf x = some f):(x == f.nm) = true:=by
  unfold fidOf at h
  have:=List.find?_some h
  exact this
theorem aopOf_some {o:Operator} {op:AOp} (h:aopOf o = some op):o = op.py:=by
  cases o <;> first | exact noneSome h | (cases h; rfl)
theorem copOf_some {o:CmpOp} {op:COp} (h:copOf o = some op):o = op.py:=by
  cases o <;> first | exact noneSome h | (cases h; rfl)
theorem beq_bop {o o':Operator} (h:(o == o') = true):o = o':=beq_iff_eq.mp h
theorem beq_cop {o o':CmpOp} (h:(o == o') = true):o = o':=beq_iff_eq.mp h
theorem Snd.cmp {o:CmpOp} {C:SV→SV→Hp→(SV→Hp→Prop)→Prop} {e e₁ e₂:Mine.E} {p₁ p₂:PySem.Expr} {pos:Pos} (he:∀ ρ Q σ,wpE Γ e ρ Q σ = wpE Γ e₁ ρ (fun v σ=>wpE Γ e₂ ρ (fun w σ=>C v w σ Q) σ) σ)
    (st:∀ m pr ρ,CmpStep W c n m pr ρ ns sl o C) (hn:notSet p₂ = true) (i₁:SE W Γ c n ns sl e₁ p₁) (i₂:SE W Γ c n ns sl e₂ p₂):Snd W Γ n c ns sl e (.Compare p₁ [o] [p₂] pos) :=
  ⟨fun m pr ρ=>(snd_cmp_of (he ρ) (st m pr ρ) hn (i₁ m pr ρ) (i₂ m pr ρ)).1,fun m pr ρ=>(snd_cmp_of (he ρ) (st m pr ρ) hn (i₁ m pr ρ) (i₂ m pr ρ)).2⟩
theorem snd_binE {l:PySem.Expr} {o:Operator} {rr:PySem.Expr} {pos:Pos} {g:PySem.Expr→Mine.E} (ih:∀ p,SE W Γ c n ns sl (g p) p):Snd W Γ n c ns sl (binE l o rr g) (.BinOp l o rr pos):=by
  unfold binE
  split
  · rename_i h
    rw [Bool.and_eq_true] at h
    obtain rfl:=beq_bop h.1
    exact .pl rfl fun m pr ρ=>snd_cat (ih _ m pr ρ) (ih _ m pr ρ)
  · split
    · rename_i h
      obtain rfl:=aopOf_some h
      exact .pl rfl fun m pr ρ=>snd_bin (by cases ‹AOp› <;> rfl) (ih _ m pr ρ) (ih _ m pr ρ)
    · exact .bad
theorem snd_cmpE {l:PySem.Expr} {o:CmpOp} {rr:PySem.Expr} {pos:Pos} {g:PySem.Expr→Mine.E} (ih:∀ p,SE W Γ c n ns sl (g p) p):Snd W Γ n c ns sl (cmpE l o rr g) (.Compare l [o] [rr] pos):=by
  unfold cmpE
  split
  · rename_i hn
    split
    · rename_i h
      obtain rfl:=beq_cop h
      exact .cmp (fun _ _ _=>rfl) (fun m pr ρ=>step_is (neg:=false)) hn (ih _) (ih _)
    · split
      · rename_i h
        obtain rfl:=beq_cop h
        exact .cmp (fun _ _ _=>rfl) (fun m pr ρ=>step_is (neg:=true)) hn (ih _) (ih _)
      · split
        · rename_i h
          rw [Bool.and_eq_true] at h
          obtain rfl:=beq_cop h.1
          exact .cmp (fun _ _ _=>rfl) (fun m pr ρ=>step_eqL (neg:=false)) hn (ih _) (ih _)
        · split
          · rename_i h
            rw [Bool.and_eq_true] at h
            obtain rfl:=beq_cop h.1
            exact .cmp (fun _ _ _=>rfl) (fun m pr ρ=>step_eqL (neg:=true)) hn (ih _) (ih _)
          · split
            · rename_i op h
              obtain rfl:=copOf_some h
              exact .cmp (fun _ _ _=>rfl) (fun m pr ρ=>step_cmp (op:=op)) hn (ih _) (ih _)
            · exact .bad
  · exact .bad
theorem snd_callE (G:W.All fI r) (hΓ:CalOk W Γ n) {x:Str} {args:List PySem.Expr} {pos pos':Pos} {g:PySem.Expr→Mine.E} (ih:∀ p,SE W Γ c n ns sl (g p) p):Snd W Γ n c ns sl (callE ns x args g) (.Call (.Name x pos) args [] pos'):=by
  unfold callE
  split
  · rename_i h
    rw [Bool.and_eq_true] at h
    obtain ⟨hg,hs⟩:=h
    split
    · rename_i hx
      split
      · exact .bad
      · rename_i hne
        exact .pl rfl fun m pr ρ=>snd_newNode G.KC G.I G.gl hx hg hs (fun e=>hne e) (snds_of ih _ hs m pr ρ)
    · split
      · rename_i hx
        split
        · rw [List.all_cons,Bool.and_eq_true,List.all_cons,Bool.and_eq_true] at hs
          exact .pl rfl fun m pr ρ=>snd_max G.KF hx hg hs.1 hs.2.1 (ih _ m pr ρ) (ih _ m pr ρ)
        · exact .bad
      · split
        · rename_i hx
          split
          · rw [List.all_cons,Bool.and_eq_true] at hs
            exact .pl rfl fun m pr ρ=>snd_abs G.KF G.ab hx hg hs.1 (ih _ m pr ρ)
          · exact .bad
        · split
          · rename_i hx
            split
            · rw [List.all_cons,Bool.and_eq_true] at hs
              exact .pl rfl fun m pr ρ=>snd_len G.KF hx hg hs.1 (ih _ m pr ρ)
            · exact .bad
          · split
            · rename_i hx
              split
              · rw [List.all_cons,Bool.and_eq_true] at hs
                split
                · exact .pl rfl fun m pr ρ=>snd_sortedKeys G.KF hx hg hs.1 (ih _ m pr ρ)
                · exact .pl rfl fun m pr ρ=>snd_sorted G.KF hx hg hs.1 (ih _ m pr ρ)
              · exact .bad
            · split
              · rename_i hf
                exact .pl rfl fun m pr ρ=>snd_call G.KF hΓ (fidOf_some hf) hg hs (fun e=>by rw [e]; rfl) (snds_of ih _ hs m pr ρ)
              · exact .bad
  · exact .bad
theorem snd_methE {o:PySem.Expr} {x:Str} {args:List PySem.Expr} {ap pos:Pos} {g:PySem.Expr→Mine.E} (hl:(ap.endLine == pos.line) = true) (ih:∀ p,SE W Γ c n ns sl (g p) p):Snd W Γ n c ns sl (methE o x args g) (.Call (.Attribute o x ap) args [] pos):=by
  unfold methE
  split
  · rename_i h
    rw [Bool.and_eq_true] at h
    obtain ⟨hc,hs⟩:=h
    split
    · rename_i hx
      split
      · rw [List.all_cons,Bool.and_eq_true] at hs
        exact .pl rfl fun m pr ρ=>snd_append hx hc hl hs.1 (ih _ m pr ρ) (ih _ m pr ρ)
      · exact .bad
    · split
      · rename_i hx
        split
        · exact .pl rfl fun m pr ρ=>snd_pop hx hc hl (ih _ m pr ρ)
        · exact .bad
      · split
        · rename_i hx
          split
          · rw [List.all_cons,Bool.and_eq_true,List.all_cons,Bool.and_eq_true] at hs
            exact .pl rfl fun m pr ρ=>snd_get hx hc hl hs.1 hs.2.1 (ih _ m pr ρ) (ih _ m pr ρ) (ih _ m pr ρ)
          · exact .bad
        · exact .bad
  · exact .bad
theorem beq_toNat {i:Int} (h:0 ≤ i):(i == ((i.toNat:Nat):Int)) = true:=by rw [beq_iff_eq]; exact (Int.toNat_of_nonneg h).symm
theorem compOk_of {b:Bool} {xn:Str} {pit:PySem.Expr} {sc:Scope} (h:compOk b ns sl xn pit sc = true):b = true∧compScOk ns xn sc = true∧notSet pit = true:=by
  unfold compOk at h
  simp only [Bool.and_eq_true] at h
  exact ⟨h.1,h.2.1.1.2,h.2.2⟩
theorem snd_all (G:W.All fI r) (hΓ:CalOk W Γ n):∀ (k:Nat) (b:Bool) (ns:Nms) (sl:Sls) (p:PySem.Expr) (c:Cfg),(b = true→c.env.locals = c.L∧CellsAll c.env ns)→EnvOk c.env ns→Snd W Γ n c ns sl (ofE k b ns sl p) p
  | 0,_,_,_,_,_,_,_=>.bad
  | k + 1,b,ns,sl,p,c,lo,eo=>by
    have ih:∀ p,Snd W Γ n c ns sl (ofE k b ns sl p) p:=fun p=>snd_all G hΓ k b ns sl p c lo eo
    have ih1:∀ p,SE W Γ c n ns sl (ofE k b ns sl p) p:=fun p=>(ih p).1
    have KC:=G.KC
    have hs:=view_spec p
    show Snd W Γ n c ns sl (ofV b ns sl (ofE k) (view p)) p
    generalize view p = v at hs
    cases hs <;> dsimp only [ofV]
    · exact .bad
    · exact .pl rfl fun m pr ρ=>snd_const_none
    · exact .pl rfl fun m pr ρ=>snd_const_bool
    · split
      · rename_i h
        obtain ⟨j,rfl⟩:=Int.eq_ofNat_of_zero_le h
        exact .pl rfl fun m pr ρ=>snd_const_int
      · exact .bad
    · split
      · rename_i h
        obtain ⟨j,rfl⟩:=Int.eq_ofNat_of_zero_le h
        exact .pl rfl snd_negC
      · exact .bad
    · split
      · rename_i h
        exact .pl rfl fun m pr ρ=>snd_var h
      · exact .bad
    · split
      · rename_i hf
        split
        · rename_i hc
          exact .pl rfl fun m pr ρ=>snd_attr KC (fldOf_some hf) hc (ih1 _ m pr ρ)
        · exact .bad
      · exact .bad
    · exact snd_binE ih1
    · exact snd_cmpE ih1
    · exact ⟨fun m pr ρ=>snd_not ((ih _).1 m pr ρ),fun m pr ρ=>sndT_not ((ih _).2 m pr ρ)⟩
    · exact ⟨fun m pr ρ=>snd_and ((ih _).1 m pr ρ) ((ih _).1 m pr ρ),fun m pr ρ=>sndT_and ((ih _).2 m pr ρ) ((ih _).2 m pr ρ)⟩
    · exact ⟨fun m pr ρ=>snd_or ((ih _).1 m pr ρ) ((ih _).1 m pr ρ),fun m pr ρ=>sndT_or ((ih _).2 m pr ρ) ((ih _).2 m pr ρ)⟩
    · exact ⟨fun m pr ρ=>snd_ite ((ih _).2 m pr ρ) ((ih _).1 m pr ρ) ((ih _).1 m pr ρ),fun m pr ρ=>sndT_ite ((ih _).2 m pr ρ) ((ih _).2 m pr ρ) ((ih _).2 m pr ρ)⟩
    · exact snd_callE G hΓ ih1
    · rename_i h
      exact snd_methE h ih1
    · rename_i h
      exact .pl rfl fun m pr ρ=>snd_idx h (ih1 _ m pr ρ) (ih1 _ m pr ρ)
    · exact .pl rfl fun m pr ρ=>snd_rev (ih1 _ m pr ρ)
    · split
      · rename_i h
        exact .pl rfl fun m pr ρ=>snd_upto (beq_toNat h) (ih1 _ m pr ρ)
      · exact .bad
    · split
      · rename_i h
        exact .pl rfl fun m pr ρ=>snd_from (beq_toNat h) (ih1 _ m pr ρ)
      · exact .bad
    · split
      · rename_i h
        exact .pl rfl fun m pr ρ=>snd_list (snds_of ih1 _ h m pr ρ)
      · exact .bad
    · split
      · rename_i h
        rw [Bool.and_eq_true,Bool.and_eq_true] at h
        exact .pl rfl fun m pr ρ=>snd_tri h.1.1 h.1.2 h.2 (ih1 _ m pr ρ) (ih1 _ m pr ρ) (ih1 _ m pr ρ)
      · exact .bad
    · exact .pl rfl fun m pr ρ=>snd_emptyDict
    · split
      · rename_i h
        obtain ⟨rfl,h1,h2⟩:=compOk_of h
        exact .pl rfl (snd_comp (lo rfl).1 (lo rfl).2 h1 h2 (ih1 _) (fun cl C ca eo'=>(snd_all G hΓ k false _ _ _ (c.comp _ cl C) (fun x=>nomatch x) eo').1) eo)
      · exact .bad
    · split
      · rename_i h
        obtain ⟨rfl,h1,h2⟩:=compOk_of h
        exact .pl rfl (snd_compIf (lo rfl).1 (lo rfl).2 h1 h2 (ih1 _) (fun cl C ca eo'=>(snd_all G hΓ k false _ _ _ (c.comp _ cl C) (fun x=>nomatch x) eo').1) (fun cl C ca eo'=>(snd_all G hΓ k false _ _ _ (c.comp _ cl C) (fun x=>nomatch x) eo').2) eo)
      · exact .bad
end
end Mine
end
section
open PySem PySem.W PyProof.Rows PySem.Calls PySem.Spec
namespace Mine
set_option linter.unusedVariables false
section
variable {W:Wld} {n:Nat} {Γ:Cal} {fI:Addr} {r:FnRec} {c:Cfg} {ns:Nms} {sl:Sls}
theorem SndS.bad {p:Stmt}:SndS W Γ c n ns sl .bad p:=fun Q ρ σ s m priv pr news X h a=>h.elim
theorem sndss_of {g:Stmt→Mine.S} (ih:∀ p,SndS W Γ c n ns sl (g p) p):∀ ps:List Stmt,SndSs W Γ c n ns sl (ssOf g ps) ps
  | []=>snds_ss_nil
  | p :: ps=>snds_ss_cons (ih p) (sndss_of ih ps)
theorem snd_assignName (G:W.All fI r) (hΓ:CalOk W Γ n) (lo:c.env.locals = c.L) (ca:CellsAll c.env ns) (eo:EnvOk c.env ns) {k:Nat} {y:Str} {tp pos:Pos} {p:PySem.Expr} :
    SndS W Γ c n ns sl (assignE ns sl (ofE k true ns sl) p (.Name y tp)) (.Assign [.Name y tp] p pos):=by
  have A:=fun k b ns sl p c lo eo=>snd_all G hΓ k b ns sl p c lo eo
  show SndS W Γ c n ns sl (if stOk ns sl (slotOf sl y) y && asgName ns y tp p p then .assign (slotOf sl y) (ofE k true ns sl p) else .bad) _
  have hd:(∃ pe gs sc pp,p = .ListComp pe gs sc pp) ∨ asgName ns y tp p p = notComp p:=by
    cases p <;> first | exact .inr rfl | exact .inl ⟨_,_,_,_,rfl⟩
  cases hc:(stOk ns sl (slotOf sl y) y && asgName ns y tp p p) with
  | false=>exact .bad
  | true =>
    rw [if_pos rfl]
    rw [Bool.and_eq_true] at hc
    obtain ⟨hs,h⟩:=hc
    rcases hd with ⟨pe,gs,sc,pp,rfl⟩ | hd
    · have h:(tp.line == pp.line && ns.lookup y == some .local && !(sc.names.any fun z=>z.1 == y && (z.2 == .local || z.2 == .cell))) = true:=h
      rw [Bool.and_eq_true,Bool.and_eq_true] at h
      obtain ⟨⟨hl,hk⟩,hn⟩:=h
      have hn':(sc.names.any fun z=>z.1 == y && (z.2 == .local || z.2 == .cell)) = false:=by simpa using hn
      have hk':ns.lookup y = some .local:=by simpa using hk
      have bad:SndS W Γ c n ns sl (.assign (slotOf sl y) .bad) (.Assign [.Name y tp] (.ListComp pe gs sc pp) pos):=fun Q ρ σ s m priv pr news X h a=>h.elim
      cases k with
      | zero=>exact bad
      | succ k =>
        have hv:=view_spec (.ListComp pe gs sc pp)
        show SndS W Γ c n ns sl (.assign (slotOf sl y) (ofV true ns sl (ofE k) (view (.ListComp pe gs sc pp)))) _
        generalize view (.ListComp pe gs sc pp) = v at hv
        cases hv
        · exact bad
        · dsimp only [ofV]
          split
          · rename_i h
            obtain ⟨_,h1,h2⟩:=compOk_of h
            exact snd_assign_comp lo ca h1 h2 (A _ _ _ _ _ _ (fun _=>⟨lo,ca⟩) eo).1 (fun cl C ca eo'=>(A k false _ _ _ (c.comp _ cl C) (fun x=>nomatch x) eo').1) eo hs hk' hl hn'
          · exact bad
        · dsimp only [ofV]
          split
          · rename_i h
            obtain ⟨_,h1,h2⟩:=compOk_of h
            exact snd_assign_compIf lo ca h1 h2 (A _ _ _ _ _ _ (fun _=>⟨lo,ca⟩) eo).1 (fun cl C ca eo'=>(A k false _ _ _ (c.comp _ cl C) (fun x=>nomatch x) eo').1) (fun cl C ca eo'=>(A k false _ _ _ (c.comp _ cl C) (fun x=>nomatch x) eo').2) eo hs hk' hl hn'
          · exact bad
    · exact snd_assign hs (hd ▸ h) (A _ _ _ _ _ _ (fun _=>⟨lo,ca⟩) eo).1
theorem attr1_ind {P:PySem.Expr→Option (PySem.Expr × Str)→Prop} (h:∀ p n pos,P (.Attribute p n pos) (some (p,n))) (hb:∀ e,P e none) (e:PySem.Expr):P e (attr1 e):=by
  cases e <;> first | exact hb _ | exact h ..
theorem attr1_some {e p:PySem.Expr} {nm:Str}:attr1 e = some (p,nm)→∃ pos,e = .Attribute p nm pos :=
  attr1_ind (P:=fun e o=>o = some (p,nm)→∃ pos,e = .Attribute p nm pos) (fun _ _ pos h=>by cases h; exact ⟨pos,rfl⟩) (fun _=>noneSome) e
theorem attr2_some {l:List PySem.Expr} {x:(PySem.Expr × Str) × (PySem.Expr × Str)} (h:attr2 l = some x):∃ p q,l = [.Attribute x.1.1 x.1.2 p,.Attribute x.2.1 x.2.2 q]:=by
  cases l with
  | nil=>cases h
  | cons a r =>
    cases r with
    | nil=>cases h
    | cons b r =>
      cases r with
      | cons _ _=>cases h
      | nil =>
        obtain ⟨u,h1,h⟩:=Option.bind_eq_some_iff.mp h
        obtain ⟨v,h2,rfl⟩:=Option.map_eq_some_iff.mp h
        obtain ⟨p,rfl⟩:=attr1_some h1
        obtain ⟨q,rfl⟩:=attr1_some h2
        exact ⟨p,q,rfl⟩
theorem snd_assignE (G:W.All fI r) (hΓ:CalOk W Γ n) (lo:c.env.locals = c.L) (ca:CellsAll c.env ns) (eo:EnvOk c.env ns) {k:Nat} {t p:PySem.Expr} {pos:Pos} :
    SndS W Γ c n ns sl (assignE ns sl (ofE k true ns sl) p t) (.Assign [t] p pos):=by
  have ih:∀ p,SE W Γ c n ns sl (ofE k true ns sl p) p:=fun p=>(snd_all G hΓ k true ns sl p c (fun _=>⟨lo,ca⟩) eo).1
  have KC:=G.KC
  cases t with
  | Name y tp=>exact snd_assignName G hΓ lo ca eo
  | Attribute po nm ap =>
    show SndS W Γ c n ns sl (match fldOf nm with | some f=>if notComp p then .setattr (ofE k true ns sl po) f (ofE k true ns sl p) else .bad | none=>.bad) _
    cases hf:fldOf nm with
    | none=>exact .bad
    | some f =>
      cases hc:notComp p with
      | true=>exact snd_setattr KC (fldOf_some hf) hc (ih _) (ih _)
      | false=>exact .bad
  | Subscript po pi ap =>
    show SndS W Γ c n ns sl (if notComp p && notSlice pi then .setidx (ofE k true ns sl po) (ofE k true ns sl pi) (ofE k true ns sl p) else .bad) _
    cases h:(notComp p && notSlice pi) with
    | false=>exact .bad
    | true =>
      rw [Bool.and_eq_true] at h
      exact snd_setidx h.1 (ih _) (ih _) (ih _)
  | Tuple pts kk tp =>
    cases p <;> first | exact .bad | skip
    case Name y q =>
      show SndS W Γ c n ns sl (if namesOk ns sl (slotsIn sl pts) pts then .unpack (slotsIn sl pts) (ofE k true ns sl (.Name y q)) else .bad) _
      cases h:namesOk ns sl (slotsIn sl pts) pts with
      | true=>exact snd_unpack h (ih _)
      | false=>exact .bad
    case Tuple pvs kv vp =>
      show SndS W Γ c n ns sl (asgTT ns sl (ofE k true ns sl) pts pvs) _
      unfold asgTT
      cases h2:attr2 pts with
      | none =>
        dsimp only
        cases h:(namesOk ns sl (slotsIn sl pts) pts && asgOk pts pvs && pvs.all notStar) with
        | false=>exact .bad
        | true =>
          rw [Bool.and_eq_true,Bool.and_eq_true] at h
          exact snd_asg h.1.1 h.1.2 h.2 (snds_of ih _ h.2)
      | some x =>
        obtain ⟨⟨p₁,n₁⟩,⟨p₂,n₂⟩⟩:=x
        obtain ⟨q₁,q₂,rfl⟩:=attr2_some h2
        dsimp only
        cases hf₁:fldOf n₁ with
        | none=>exact .bad
        | some f₁ =>
          cases hf₂:fldOf n₂ with
          | none=>exact .bad
          | some f₂ =>
            cases pvs with
            | nil=>exact .bad
            | cons pa r =>
              cases r with
              | nil=>exact .bad
              | cons pb r =>
                cases r with
                | cons _ _=>exact .bad
                | nil =>
                  show SndS W Γ c n ns sl (if notStar pa && notStar pb then .asgAttr2 (ofE k true ns sl p₁) f₁ (ofE k true ns sl p₂) f₂ (ofE k true ns sl pa) (ofE k true ns sl pb) else .bad) _
                  cases hn:(notStar pa && notStar pb) with
                  | false=>exact .bad
                  | true =>
                    rw [Bool.and_eq_true] at hn
                    exact snd_asgAttr2 KC (fldOf_some hf₁) (fldOf_some hf₂) hn.1 hn.2 (ih _) (ih _) (ih _) (ih _)
  | _=>exact .bad
theorem snd_forE (G:W.All fI r) {t p:PySem.Expr} {pos:Pos} {g:PySem.Expr→Mine.E} {body:Mine.Ss} {pb:List Stmt} (ih:∀ p,SE W Γ c n ns sl (g p) p) (ib:SndSs W Γ c n ns sl body pb) :
    SndS W Γ c n ns sl (forE ns sl g body p t) (.For t p pb [] pos):=by
  cases t with
  | Name y yp =>
    show SndS W Γ c n ns sl (if locOk ns sl (slotOf sl y) y then forP ns sl g body y p p else .bad) _
    cases hx:locOk ns sl (slotOf sl y) y with
    | false=>exact .bad
    | true =>
      rw [if_pos rfl]
      have fl:SndS W Γ c n ns sl (forL sl g body y p) (.For (.Name y yp) p pb [] pos):=by
        unfold forL
        cases hn:notSet p with
        | true=>exact snd_forList hx hn (ih _) ib
        | false=>exact .bad
      cases p <;> first | exact fl | skip
      case Tuple ps kk tp =>
        cases ps with
        | nil=>exact fl
        | cons a r =>
          cases r with
          | nil=>exact fl
          | cons b r =>
            cases r with
            | cons _ _=>exact fl
            | nil =>
              show SndS W Γ c n ns sl (if notStar a && notStar b then .forTup (slotOf sl y) (g a) (g b) body else .bad) _
              cases h:(notStar a && notStar b) with
              | false=>exact .bad
              | true =>
                rw [Bool.and_eq_true] at h
                exact snd_forTup hx h.1 h.2 (ih _) (ih _) ib
      case Call f args ks cp =>
        cases f <;> first | exact fl | skip
        rename_i rn rp
        show SndS W Γ c n ns sl (if rn == ("range":Str) then forR ns sl g body y rn (.Call (.Name rn rp) args ks cp) ks args else forL sl g body y (.Call (.Name rn rp) args ks cp)) _
        cases hr:(rn == ("range":Str)) with
        | false=>exact fl
        | true =>
          rw [if_pos rfl]
          cases args with
          | nil=>exact fl
          | cons a q =>
            cases q with
            | cons _ _=>exact fl
            | nil =>
              cases ks with
              | cons _ _=>exact fl
              | nil =>
                show SndS W Γ c n ns sl (if globOk ns rn && notStar a then .forRange (slotOf sl y) (g a) body else .bad) _
                cases h:(globOk ns rn && notStar a) with
                | false=>exact .bad
                | true =>
                  rw [Bool.and_eq_true] at h
                  exact snd_forRange G.KF hx hr h.1 h.2 (ih _) ib
  | _=>exact .bad
theorem sndS_all (G:W.All fI r) (hΓ:CalOk W Γ n) (lo:c.env.locals = c.L) (ca:CellsAll c.env ns) (eo:EnvOk c.env ns) (k:Nat):∀ (j:Nat) (p:Stmt),SndS W Γ c n ns sl (ofS ns sl (ofE k true ns sl) j p) p
  | 0,_=>.bad
  | j + 1,p=>by
    have ih:∀ p,Snd W Γ n c ns sl (ofE k true ns sl p) p:=fun p=>snd_all G hΓ k true ns sl p c (fun _=>⟨lo,ca⟩) eo
    have ih1:∀ p,SE W Γ c n ns sl (ofE k true ns sl p) p:=fun p=>(ih p).1
    have ihs:∀ ps,SndSs W Γ c n ns sl (ssOf (ofS ns sl (ofE k true ns sl) j) ps) ps:=sndss_of (sndS_all G hΓ lo ca eo k j)
    show SndS W Γ c n ns sl (ofS1 ns sl (ofE k true ns sl) (ofS ns sl (ofE k true ns sl) j) p) p
    cases p <;> first | exact .bad | exact snd_if (ih _).2 (ihs _) (ihs _) | skip
    case Expr p pos =>
      show SndS W Γ c n ns sl (if notComp p then .expr (ofE k true ns sl p) else .bad) _
      cases h:notComp p with
      | true=>exact snd_expr h (ih1 _)
      | false=>exact .bad
    case Assign ts p pos =>
      cases ts with
      | nil=>exact .bad
      | cons t r =>
        cases r with
        | nil=>exact snd_assignE G hΓ lo ca eo
        | cons _ _=>exact .bad
    case Delete ts pos =>
      cases ts with
      | nil=>exact .bad
      | cons t r =>
        cases r with
        | cons _ _=>exact .bad
        | nil=>cases t <;> first | exact .bad | exact snd_delidx (ih1 _) (ih1 _)
    case While t x e pos =>
      cases e with
      | nil=>exact snd_while (ih _).2 (ihs _)
      | cons _ _=>exact .bad
    case For t p pb e pos =>
      cases e with
      | nil=>exact snd_forE G ih1 (ihs _)
      | cons _ _=>exact .bad
    case Return o pos =>
      cases o with
      | none=>exact snd_retNone
      | some p=>exact snd_ret (ih1 _)
theorem sndSs_all (G:W.All fI r) (hΓ:CalOk W Γ n) (lo:c.env.locals = c.L) (ca:CellsAll c.env ns) (eo:EnvOk c.env ns) (body:List Stmt):SndSs W Γ c n ns sl (ofSs ns sl body) body :=
  sndss_of (sndS_all G hΓ lo ca eo 20 20) body
theorem cal_ok (G:W.All fI r) (T:∀ f,∃ rc,FnIn W.K W.fa f rc∧ofSs rc.scope.names (slotsOf f) rc.body = (fnD f).body):∀ n,CalOk W (wpFn fnD n) n
  | 0=>fun f vs Q σ h=>h.elim
  | n + 1=>fun f vs Q σ h c m priv news s vals X ok F N R V=>by
    obtain ⟨rc,I,h1⟩:=T f
    obtain ⟨hl,w⟩:=h
    exact call_fn I (fun c' ok' eo lo ca=>h1 ▸ sndSs_all G (cal_ok G T n) lo ca eo rc.body) hl w ok F N R V
end
end Mine
end
section
open PySem PySem.W PyProof.Rows PySem.Calls PySem.Spec
namespace Mine
set_option linter.unusedVariables false
noncomputable def treeSrcs:List (Fld × Src):=[(.root,.none),(.count,.int 0)]
section
variable {W:Wld} {c:Cfg} {n:Nat} {m:Str→Option Value} {priv pr news:News1} {s:Shared} {X:Value→Shared→Prop} {σ:Hp} {ρ:Lc} {ns:Nms} {sl:Sls} {Γ:Cal}
theorem snd_newTree (KC:W.Clss) {fT:Addr} {r:FnRec} (I:InitIn W.K W.cl.tree fT r ["self"] treeSrcs) (hgl:nsIn W.K mainGlobals ("OverlayTree":Str) = some (some (.ref W.cl.tree))) {x:Str} {pos p:Pos}
    (hx:(x == ("OverlayTree":Str)) = true) (hg:globOk ns x = true):SE W Γ c n ns sl .newTree (.Call (.Name x p) [] [] pos):=fun m pr ρ Q σ s news X h a=>by
  obtain rfl:=beq_iff_eq.mp hx
  refine Call_ (a.glob hg hgl (callWith_K0 (a.ok.X.keeps a.F.keep) I.kp ?_))
  refine call_cls a.F a.ok.X a.N I.mak I.fi I.fn fun xa dx h₂ F₂ N₂ hd hx=>?_
  have ok:=a.ok
  refine callX_plain (cl:=[]) ok.B F₂ N₂ ok.T.nolimit ok.hA ok.hf ok.hk ((ok.X.keeps F₂.keep) _ _ I.lk) rfl (codeRec_of (ok.X.keeps F₂.keep) I.cd) (by have:=ok.hd; rw [depth_under_make]; show c.A.depth + 1 < 1000; omega) (BindsTo.of_eq (I.bind [.ref xa] rfl))
    (fun y hy=>I.ask _ (List.of_mem_zip hy).1) (fun g L' h₃ FG F' N' B' st l=>?_) I.cells I.co I.gen I.kd
  refine wpAny_mono (init_loop (W:=W) KC (.inr rfl) (env:=envX r.qual r.scope L' fT r.cdv []) (av:=fun _=>none) I.kd rfl (ok.X.keeps st) ⟨I.ask _ (.head _),rfl⟩ (fun y sv hy=>nomatch hy) hd hx r.body treeSrcs
    [(.root,.none),(.count,.int 0)] [] [] 0 _ (fun _ _=>False) I.run rfl (by show [Fld.root,Fld.count].Nodup; decide) (by show 2 ≤ 20; decide) F' N' .nil) (fun fl s' z=>?_) fun _ _ x=>x.elim
  obtain ⟨rfl,h₄,t₄,es',k',rfl,F₄,N₄,E₄⟩:=z
  refine ⟨L',_,_,F₄,N₄,fun F₅ N₅=>⟨rfl,?_⟩⟩
  rw [List.nil_append] at E₄
  have hes:EsR news (SO.get (.tree ⟨none,0⟩)) es':=by
    refine ⟨by rw [E₄.len]; show 2 ≤ 20; decide,fun f w hf=>?_⟩
    have fin:∀ {sv:SV},(List.find? (fun p:Fld × SV=>decide (p.1 = f)) [(.root,.none),(.count,.int 0)]) = some (f,sv)→sv = w→∃ e,es'.find? (fun e=>e.key.isStr f.nm) = some e∧VR news w e.val:=fun hh e=>by
      subst e
      obtain ⟨e,g1,g2⟩:=E₄.find hh
      exact ⟨e,g1,g2.mono (n:=[]) (n':=news) (fun _ _ h=>nomatch h)⟩
    cases f <;> first | (cases hf; exact fin rfl rfl) | cases hf
  have R₅:=RR.allocInst (k:=k') (so:=.tree ⟨none,0⟩) a.R (.inr ⟨_,rfl,rfl⟩) hd hx hes
  exact ⟨h₄,t₄,_,.ref xa,_,rfl,F₅,N₅,R₅,Per.of fun p hp=>.tail _ (.tail _ hp),VR.ref xa,h xa (a.R.free fun p hp=>Nat.lt_trans (hd p hp) hx)⟩
theorem snd_given {la:Addr} {us:List Value} {is:List Int} {x:Str} {p₀ q₁ q₂ pos:Pos} {k:Nat} (lo:c.env.locals = c.L) (hl:c.h₀.IsList la us.toArray) (hi:IntsAre us is) (hz:is.length ≤ 63) (hk:ns.lookup x = some .local) (hx:(x == ("__debug__":Str)) = false) (hm:m x = some (.ref la)) :
    SndE W Γ c n m pr ρ ns sl .given (.Subscript (.Name x p₀) (.Slice none (some (.Constant (.int 63) k q₁)) none q₂) pos):=fun Q σ s news X h a=>by
  refine Subscript_ (wpAny_Name (wpAny_loadName_local a.eo.sk (a.kind hk) (by rw [lo]; exact a.F.ns) hm ?_) hx)
  refine wpAny_Slice (evalPart_none_step (evalPart_some_step ?_))
  show wpAny _ _ (mkInt 63) _ _ _
  unfold mkInt
  refine wpAny_bind (wpAny_fresh (wpAny_pure (evalPart_none_step ?_)))
  have hl':s.heap.IsList la us.toArray:=by obtain ⟨o,ho,r⟩:=hl; exact ⟨o,a.F.keep _ _ ho,r⟩
  have hv:VRs news (is.map .int) us:=VRs.of_ints hi
  have hlen:=hv.len
  rw [List.length_map] at hlen
  generalize ho:({ cls:=.type "slice",data:=.fields #[.none,.int 63 s.toks,.none] }:Obj) = so
  refine tail_any (s:={ s with heap:=s.heap.push so,toks:=s.toks + 1 }) (hl'.push _).typeIs slot_list_getitem.lookup ?_ rfl
  refine wpAny_getItem_list_slice (lo:=none) (hi:=some 63) (st:=none) (hl'.push _) (by rw [← ho]; exact Heap.IsSliceOf.new ..) .none (.int _ _) .none (by decide) ?_ (by rw [List.size_toArray,← hlen,sizeLine_eq]; omega)
  have F1:=a.F.push so
  have N1:=News.push F1 (a.N.grown fun _ _ e=>Heap.get?_push_of_some _ e) { cls:=.type "list",data:=.seq (slicePick us.toArray none (some 63) none) }
  have hf:∀ p ∈ news,p.1 < (s.heap.push so).objs.size:=fun p hp=>by
    rw [Heap.size_push]; exact Nat.lt_succ_of_lt (Heap.lt_size (a.N p hp).1)
  have hw:VRs news (is.map .int) (slicePick us.toArray none (some 63) none).toList:=by
    rw [show (some (63:Int)) = some ((63:Nat):Int) from rfl,pick_upto,List.take_of_length_le (by rw [← hlen]; exact hz)]
    exact hv
  exact PE.now (F1.push _) N1 (a.R.allocList (n:=0) hf hw) Per.cons (VR.ref _) (h is hz _ (a.R.free hf))
theorem snd_asgTup {is:List Nat} {es:Mine.Es} {ts vs:List PySem.Expr} {k k':Nat} {p p' pos:Pos} (h1:namesOk ns sl is ts = true) (hz:ts.length ≤ 100) (hs:swapsWithSole [.Tuple ts k p] (.Tuple vs k' p') pos.line c.env = pure false) (hw:swappedStores [.Tuple ts k p] (.Tuple vs k' p') c.env = pure none)
    (ih:SndEs W Γ c n m pr ρ ns sl es vs) {Q:Fl→Lc→Hp→Prop} (h:wpS Γ (.asgTup is es) Q ρ σ) (a:AtS W c n m priv pr news s σ ρ ns sl):wpAny W.M c.A (exec (.Assign [.Tuple ts k p] (.Tuple vs k' p') pos) c.env) (PS W c n priv s news ns sl Q) X s:=by
  refine Assign_Tuple (Tuple_ (ih.then a.at_ h fun h₁ t₁ n₁ svs σ₁ us a₁ P₁ V₁ q₁=>?_)) hs hw
  have hn:=named_of h1
  have hlen:us.length = (namesOf ts).length:=by rw [← V₁.len,q₁.1]; exact hn.1.len
  refine newTuple_N a₁.F a₁.N (fun h₂ F₂ N₂=>?_) (by rw [hlen,hn.2,sizeLine_eq]; omega)
  have R₂:=a₁.R.push (o:=tupO us) (fun p hp=>Heap.lt_size (a₁.N p hp).1) tupO_inst
  have a₂:=a₁.next (tk:=t₁) F₂ N₂ R₂ Per.cons
  have ht:IsTup h₂ h₁.objs.size us.toArray:=⟨_,(N₂ _ (.head _)).1,rfl,0,rfl⟩
  obtain ⟨j1,j2,j3⟩:=named_each (W:=W) (c:=c) ts is h1
  refine assign_Tuple_tuple a₂.ok.hh ht (by rw [j1,List.size_toArray,hlen,hn.2]) j2 fun h₃ he=>?_
  have a₃:=a₂.next (tk:=t₁) (a₂.F.extBut he (Nat.le_refl _)) (a₂.N.extBut he (Nat.le_refl _)) a₂.R Per.refl
  exact assign_many is _ (namesOf ts) svs us m pr _ _ ρ j3 hn.1 q₁.1.symm (V₁.mono Per.cons) (a.next a₃) fun h₄ t₄ m' pr' news' a₄ P₄=>PS.trans (P₁.trans (Per.cons.trans P₄)) (a₄.end q₁.2)
end
end Mine
end
section
open PySem PySem.W PyProof.Rows PySem.Calls
namespace Mine
noncomputable abbrev pp:Program:=PySem.Challenge.pw_np0068_01
structure Df where
  name:Str
  params:Arguments
  body:List Stmt
  scope:Scope
  pos:Pos
noncomputable def dfOf:Option Stmt→Df
  | some (.FunctionDef n a b _ _ _ sc _ _ p)=>⟨n,a,b,sc,p⟩
  | _=>⟨"",⟨[],[],none,[],[],none,[]⟩,[],{ kind:=.function,names:=[],isGenerator:=false,isCoroutine:=false },⟨0,0,0,0⟩⟩
noncomputable def bodyOf:Option Stmt→List Stmt
  | some (.ClassDef _ _ _ b _ _ _ _ _ _ _)=>b
  | _=>[]
noncomputable def dfAt (i:Nat):Df:=dfOf pp.main.body[i]?
noncomputable def dfIn (i j:Nat):Df:=dfOf (bodyOf pp.main.body[i]?)[j]?
noncomputable abbrev sv (x:String) (t:Nat):Value:=.str (Str.ofString x) t
noncomputable def de (P:Params) (x:String) (t:Nat) (v:Value):DictEntry:={ hash:=PyData.keyHash P (Str.ofString x),key:=sv x t,val:=v }
noncomputable def fob (d:Df) (q:String) (md:String) (t c:Nat):Obj:={ cls:=.type "function",data:=.func { name:=d.name,qualname:=Str.ofString q,params:=d.params,body:=.stmts d.body,scope:=d.scope,globals:=3,closure:=[],defaults:=.none,kwdefaults:=.none,pyModule:=sv md t,code:=.ref c } }
noncomputable def KK (P:Params):Frag:=[
  (3,{ cls:=Value.type "dict",data:=Data.dict #[de P "__name__" 165 (sv "law_np0068_01" 543),de P "__doc__" 166 (Value.none),de P "__package__" 167 (Value.none),de P "__loader__" 168 (Value.builtin "__main__.__loader__#opaque"),de P "__spec__" 169 (Value.none),de P "__annotations__" 170 (Value.ref 6),de P "__builtins__" 171 (Value.ref 4),de P "__file__" 173 (sv "/claim/cut.py" 172),de P "__cached__" 174 (Value.none),de P "OverlayNode" 231 (Value.ref 31),de P "OverlayTree" 260 (Value.ref 52),de P "hand_down" 268 (Value.ref 63),de P "hand_down_to" 277 (Value.ref 70),de P "greatest_end" 286 (Value.ref 77),de P "renew_limits" 294 (Value.ref 84),de P "hang" 304 (Value.ref 91),de P "turn_left" 313 (Value.ref 98),de P "turn_right" 322 (Value.ref 105),de P "is_red" 329 (Value.ref 112),de P "colour_inserted" 341 (Value.ref 119),de P "turned_inward" 351 (Value.ref 126),de P "put_node" 362 (Value.ref 133),de P "first_below" 369 (Value.ref 140),de P "take_place" 379 (Value.ref 147),de P "drop_node" 392 (Value.ref 154),de P "colour_dropped" 402 (Value.ref 161),de P "sibling_of" 410 (Value.ref 168),de P "turn_towards" 419 (Value.ref 175),de P "lightened" 432 (Value.ref 182),de P "all_nodes_in_order" 442 (Value.ref 189),de P "nodes_between" 454 (Value.ref 196),de P "begins_to_move" 465 (Value.ref 203),de P "grows" 474 (Value.ref 210),de P "open_gap" 480 (Value.ref 215),de P "shift_nodes" 492 (Value.ref 222),de P "close_gap" 503 (Value.ref 229),de P "black_height" 513 (Value.ref 236),de P "nodes_from_below" 523 (Value.ref 243),de P "shape_error" 531 (Value.ref 250),de P "overlay_tree_error" 542 (Value.ref 257),de P "_law_draw" 552 (Value.ref 264),de P "_law_laid" 567 (Value.ref 271),de P "_law_came" 583 (Value.ref 278),de P "_law_went" 589 (Value.ref 283),de P "_law_done" 606 (Value.ref 290),de P "_law_is_right" 612 (Value.ref 295),de P "law" 618 (Value.ref 300)] 47 }),
  (27,{ cls:=Value.type "code",data:=Data.fields #[sv "__init__" 201,sv "OverlayNode.__init__" 202,sv "/claim/cut.py" 203,Value.int 4 0,Value.int 6 0,Value.int 0 0,Value.int 0 0,Value.int 3 0,Value.ref 22,Value.bool true,Value.int 181 0,Value.ref 23,Value.none,Value.ref 24,Value.ref 25,Value.ref 26,Value.int 210 0,Value.int 4 0,sv "/claim/cut.py" 211] }),
  (28,fob (dfIn 1 0) "OverlayNode.__init__" "emacs.overlaytree" 187 27),
  (30,{ cls:=Value.type "dict",data:=Data.dict #[de P "__module__" 196 (sv "emacs.overlaytree" 187),de P "__firstlineno__" 200 (Value.int 2 199),de P "__init__" 212 (Value.ref 28),de P "__static_attributes__" 224 (Value.ref 29),de P "__dict__" 226 (Value.ref 32),de P "__weakref__" 228 (Value.ref 33),de P "__doc__" 229 (Value.none)] 4 }),
  (31,{ cls:=Value.type "type",data:=Data.cls { name:=Str.ofString "OverlayNode",bases:=[Value.type "object"],mro:=[Value.ref 31,Value.type "object"],ns:=30,qualname:=Str.ofString "OverlayNode" },slots:=#[none,none,some (sv "OverlayNode" 189),some (sv "OverlayNode" 197),some (Value.builtin "object.__new__"),some (Value.bool true)] }),
  (48,{ cls:=Value.type "code",data:=Data.fields #[sv "__init__" 244,sv "OverlayTree.__init__" 245,sv "/claim/cut.py" 246,Value.int 18 0,Value.int 1 0,Value.int 0 0,Value.int 0 0,Value.int 3 0,Value.ref 43,Value.bool true,Value.int 181 0,Value.ref 44,Value.none,Value.ref 45,Value.ref 46,Value.ref 47,Value.int 248 0,Value.int 18 0,sv "/claim/cut.py" 249] }),
  (49,fob (dfIn 2 0) "OverlayTree.__init__" "emacs.overlaytree" 187 48),
  (51,{ cls:=Value.type "dict",data:=Data.dict #[de P "__module__" 239 (sv "emacs.overlaytree" 187),de P "__firstlineno__" 243 (Value.int 16 242),de P "__init__" 250 (Value.ref 49),de P "__static_attributes__" 253 (Value.ref 50),de P "__dict__" 255 (Value.ref 53),de P "__weakref__" 257 (Value.ref 54),de P "__doc__" 258 (Value.none)] 4 }),
  (52,{ cls:=Value.type "type",data:=Data.cls { name:=Str.ofString "OverlayTree",bases:=[Value.type "object"],mro:=[Value.ref 52,Value.type "object"],ns:=51,qualname:=Str.ofString "OverlayTree" },slots:=#[none,none,some (sv "OverlayTree" 232),some (sv "OverlayTree" 240),some (Value.builtin "object.__new__"),some (Value.bool true)] }),
  (62,{ cls:=Value.type "code",data:=Data.fields #[sv "hand_down" 261,sv "hand_down" 262,sv "/claim/cut.py" 263,Value.int 21 0,Value.int 1 0,Value.int 0 0,Value.int 0 0,Value.int 3 0,Value.ref 57,Value.bool true,Value.int 181 0,Value.ref 58,Value.none,Value.ref 59,Value.ref 60,Value.ref 61,Value.int 266 0,Value.int 21 0,sv "/claim/cut.py" 267] }),
  (63,fob (dfAt 3) "hand_down" "emacs.overlaytree" 187 62),
  (69,{ cls:=Value.type "code",data:=Data.fields #[sv "hand_down_to" 269,sv "hand_down_to" 270,sv "/claim/cut.py" 271,Value.int 31 0,Value.int 1 0,Value.int 0 0,Value.int 0 0,Value.int 3 0,Value.ref 64,Value.bool true,Value.int 181 0,Value.ref 65,Value.none,Value.ref 66,Value.ref 67,Value.ref 68,Value.int 275 0,Value.int 31 0,sv "/claim/cut.py" 276] }),
  (70,fob (dfAt 4) "hand_down_to" "emacs.overlaytree" 187 69),
  (76,{ cls:=Value.type "code",data:=Data.fields #[sv "greatest_end" 278,sv "greatest_end" 279,sv "/claim/cut.py" 280,Value.int 38 0,Value.int 1 0,Value.int 0 0,Value.int 0 0,Value.int 3 0,Value.ref 71,Value.bool true,Value.int 181 0,Value.ref 72,Value.none,Value.ref 73,Value.ref 74,Value.ref 75,Value.int 284 0,Value.int 38 0,sv "/claim/cut.py" 285] }),
  (77,fob (dfAt 5) "greatest_end" "emacs.overlaytree" 187 76),
  (83,{ cls:=Value.type "code",data:=Data.fields #[sv "renew_limits" 287,sv "renew_limits" 288,sv "/claim/cut.py" 289,Value.int 44 0,Value.int 1 0,Value.int 0 0,Value.int 0 0,Value.int 3 0,Value.ref 78,Value.bool true,Value.int 181 0,Value.ref 79,Value.none,Value.ref 80,Value.ref 81,Value.ref 82,Value.int 292 0,Value.int 44 0,sv "/claim/cut.py" 293] }),
  (84,fob (dfAt 6) "renew_limits" "emacs.overlaytree" 187 83),
  (90,{ cls:=Value.type "code",data:=Data.fields #[sv "hang" 295,sv "hang" 296,sv "/claim/cut.py" 297,Value.int 51 0,Value.int 4 0,Value.int 0 0,Value.int 0 0,Value.int 3 0,Value.ref 85,Value.bool true,Value.int 181 0,Value.ref 86,Value.none,Value.ref 87,Value.ref 88,Value.ref 89,Value.int 302 0,Value.int 51 0,sv "/claim/cut.py" 303] }),
  (91,fob (dfAt 7) "hang" "emacs.overlaytree" 187 90),
  (97,{ cls:=Value.type "code",data:=Data.fields #[sv "turn_left" 305,sv "turn_left" 306,sv "/claim/cut.py" 307,Value.int 60 0,Value.int 2 0,Value.int 0 0,Value.int 0 0,Value.int 3 0,Value.ref 92,Value.bool true,Value.int 181 0,Value.ref 93,Value.none,Value.ref 94,Value.ref 95,Value.ref 96,Value.int 311 0,Value.int 60 0,sv "/claim/cut.py" 312] }),
  (98,fob (dfAt 8) "turn_left" "emacs.overlaytree" 187 97),
  (104,{ cls:=Value.type "code",data:=Data.fields #[sv "turn_right" 314,sv "turn_right" 315,sv "/claim/cut.py" 316,Value.int 72 0,Value.int 2 0,Value.int 0 0,Value.int 0 0,Value.int 3 0,Value.ref 99,Value.bool true,Value.int 181 0,Value.ref 100,Value.none,Value.ref 101,Value.ref 102,Value.ref 103,Value.int 320 0,Value.int 72 0,sv "/claim/cut.py" 321] }),
  (105,fob (dfAt 9) "turn_right" "emacs.overlaytree" 187 104),
  (111,{ cls:=Value.type "code",data:=Data.fields #[sv "is_red" 323,sv "is_red" 324,sv "/claim/cut.py" 325,Value.int 84 0,Value.int 1 0,Value.int 0 0,Value.int 0 0,Value.int 3 0,Value.ref 106,Value.bool true,Value.int 181 0,Value.ref 107,Value.none,Value.ref 108,Value.ref 109,Value.ref 110,Value.int 327 0,Value.int 84 0,sv "/claim/cut.py" 328] }),
  (112,fob (dfAt 10) "is_red" "emacs.overlaytree" 187 111),
  (118,{ cls:=Value.type "code",data:=Data.fields #[sv "colour_inserted" 330,sv "colour_inserted" 331,sv "/claim/cut.py" 332,Value.int 86 0,Value.int 2 0,Value.int 0 0,Value.int 0 0,Value.int 3 0,Value.ref 113,Value.bool true,Value.int 181 0,Value.ref 114,Value.none,Value.ref 115,Value.ref 116,Value.ref 117,Value.int 339 0,Value.int 86 0,sv "/claim/cut.py" 340] }),
  (119,fob (dfAt 11) "colour_inserted" "emacs.overlaytree" 187 118),
  (125,{ cls:=Value.type "code",data:=Data.fields #[sv "turned_inward" 342,sv "turned_inward" 343,sv "/claim/cut.py" 344,Value.int 106 0,Value.int 3 0,Value.int 0 0,Value.int 0 0,Value.int 3 0,Value.ref 120,Value.bool true,Value.int 181 0,Value.ref 121,Value.none,Value.ref 122,Value.ref 123,Value.ref 124,Value.int 349 0,Value.int 106 0,sv "/claim/cut.py" 350] }),
  (126,fob (dfAt 12) "turned_inward" "emacs.overlaytree" 187 125),
  (132,{ cls:=Value.type "code",data:=Data.fields #[sv "put_node" 352,sv "put_node" 353,sv "/claim/cut.py" 354,Value.int 115 0,Value.int 2 0,Value.int 0 0,Value.int 0 0,Value.int 3 0,Value.ref 127,Value.bool true,Value.int 181 0,Value.ref 128,Value.none,Value.ref 129,Value.ref 130,Value.ref 131,Value.int 360 0,Value.int 115 0,sv "/claim/cut.py" 361] }),
  (133,fob (dfAt 13) "put_node" "emacs.overlaytree" 187 132),
  (139,{ cls:=Value.type "code",data:=Data.fields #[sv "first_below" 363,sv "first_below" 364,sv "/claim/cut.py" 365,Value.int 142 0,Value.int 1 0,Value.int 0 0,Value.int 0 0,Value.int 3 0,Value.ref 134,Value.bool true,Value.int 181 0,Value.ref 135,Value.none,Value.ref 136,Value.ref 137,Value.ref 138,Value.int 367 0,Value.int 142 0,sv "/claim/cut.py" 368] }),
  (140,fob (dfAt 14) "first_below" "emacs.overlaytree" 187 139),
  (146,{ cls:=Value.type "code",data:=Data.fields #[sv "take_place" 370,sv "take_place" 371,sv "/claim/cut.py" 372,Value.int 148 0,Value.int 3 0,Value.int 0 0,Value.int 0 0,Value.int 3 0,Value.ref 141,Value.bool true,Value.int 181 0,Value.ref 142,Value.none,Value.ref 143,Value.ref 144,Value.ref 145,Value.int 377 0,Value.int 148 0,sv "/claim/cut.py" 378] }),
  (147,fob (dfAt 15) "take_place" "emacs.overlaytree" 187 146),
  (153,{ cls:=Value.type "code",data:=Data.fields #[sv "drop_node" 380,sv "drop_node" 381,sv "/claim/cut.py" 382,Value.int 157 0,Value.int 2 0,Value.int 0 0,Value.int 0 0,Value.int 3 0,Value.ref 148,Value.bool true,Value.int 181 0,Value.ref 149,Value.none,Value.ref 150,Value.ref 151,Value.ref 152,Value.int 390 0,Value.int 157 0,sv "/claim/cut.py" 391] }),
  (154,fob (dfAt 16) "drop_node" "emacs.overlaytree" 187 153),
  (160,{ cls:=Value.type "code",data:=Data.fields #[sv "colour_dropped" 393,sv "colour_dropped" 394,sv "/claim/cut.py" 395,Value.int 179 0,Value.int 3 0,Value.int 0 0,Value.int 0 0,Value.int 3 0,Value.ref 155,Value.bool true,Value.int 181 0,Value.ref 156,Value.none,Value.ref 157,Value.ref 158,Value.ref 159,Value.int 400 0,Value.int 179 0,sv "/claim/cut.py" 401] }),
  (161,fob (dfAt 17) "colour_dropped" "emacs.overlaytree" 187 160),
  (167,{ cls:=Value.type "code",data:=Data.fields #[sv "sibling_of" 403,sv "sibling_of" 404,sv "/claim/cut.py" 405,Value.int 188 0,Value.int 2 0,Value.int 0 0,Value.int 0 0,Value.int 3 0,Value.ref 162,Value.bool true,Value.int 181 0,Value.ref 163,Value.none,Value.ref 164,Value.ref 165,Value.ref 166,Value.int 408 0,Value.int 188 0,sv "/claim/cut.py" 409] }),
  (168,fob (dfAt 18) "sibling_of" "emacs.overlaytree" 187 167),
  (174,{ cls:=Value.type "code",data:=Data.fields #[sv "turn_towards" 411,sv "turn_towards" 412,sv "/claim/cut.py" 413,Value.int 190 0,Value.int 3 0,Value.int 0 0,Value.int 0 0,Value.int 3 0,Value.ref 169,Value.bool true,Value.int 181 0,Value.ref 170,Value.none,Value.ref 171,Value.ref 172,Value.ref 173,Value.int 417 0,Value.int 190 0,sv "/claim/cut.py" 418] }),
  (175,fob (dfAt 19) "turn_towards" "emacs.overlaytree" 187 174),
  (181,{ cls:=Value.type "code",data:=Data.fields #[sv "lightened" 420,sv "lightened" 421,sv "/claim/cut.py" 422,Value.int 195 0,Value.int 4 0,Value.int 0 0,Value.int 0 0,Value.int 3 0,Value.ref 176,Value.bool true,Value.int 181 0,Value.ref 177,Value.none,Value.ref 178,Value.ref 179,Value.ref 180,Value.int 430 0,Value.int 195 0,sv "/claim/cut.py" 431] }),
  (182,fob (dfAt 20) "lightened" "emacs.overlaytree" 187 181),
  (188,{ cls:=Value.type "code",data:=Data.fields #[sv "all_nodes_in_order" 433,sv "all_nodes_in_order" 434,sv "/claim/cut.py" 435,Value.int 221 0,Value.int 1 0,Value.int 0 0,Value.int 0 0,Value.int 3 0,Value.ref 183,Value.bool true,Value.int 181 0,Value.ref 184,Value.none,Value.ref 185,Value.ref 186,Value.ref 187,Value.int 440 0,Value.int 221 0,sv "/claim/cut.py" 441] }),
  (189,fob (dfAt 21) "all_nodes_in_order" "emacs.overlaytree" 187 188),
  (195,{ cls:=Value.type "code",data:=Data.fields #[sv "nodes_between" 443,sv "nodes_between" 444,sv "/claim/cut.py" 445,Value.int 234 0,Value.int 3 0,Value.int 0 0,Value.int 0 0,Value.int 3 0,Value.ref 190,Value.bool true,Value.int 181 0,Value.ref 191,Value.none,Value.ref 192,Value.ref 193,Value.ref 194,Value.int 452 0,Value.int 234 0,sv "/claim/cut.py" 453] }),
  (196,fob (dfAt 22) "nodes_between" "emacs.overlaytree" 187 195),
  (202,{ cls:=Value.type "code",data:=Data.fields #[sv "begins_to_move" 457,sv "begins_to_move" 458,sv "/claim/cut.py" 459,Value.int 253 0,Value.int 3 0,Value.int 0 0,Value.int 0 0,Value.int 3 0,Value.ref 197,Value.bool true,Value.int 181 0,Value.ref 198,Value.none,Value.ref 199,Value.ref 200,Value.ref 201,Value.int 463 0,Value.int 253 0,sv "/claim/cut.py" 464] }),
  (203,fob (dfAt 24) "begins_to_move" "emacs.overlaygaps" 455 202),
  (209,{ cls:=Value.type "code",data:=Data.fields #[sv "grows" 466,sv "grows" 467,sv "/claim/cut.py" 468,Value.int 259 0,Value.int 3 0,Value.int 0 0,Value.int 0 0,Value.int 3 0,Value.ref 204,Value.bool true,Value.int 181 0,Value.ref 205,Value.none,Value.ref 206,Value.ref 207,Value.ref 208,Value.int 472 0,Value.int 259 0,sv "/claim/cut.py" 473] }),
  (210,fob (dfAt 25) "grows" "emacs.overlaygaps" 455 209),
  (214,{ cls:=Value.type "code",data:=Data.fields #[sv "open_gap" 475,sv "open_gap" 476,sv "/claim/cut.py" 477,Value.int 261 0,Value.int 4 0,Value.int 0 0,Value.int 0 0,Value.int 3 0,Value.ref 211,Value.bool true,Value.int 181 0,Value.ref 212,Value.none,Value.none,Value.none,Value.ref 213,Value.int 478 0,Value.int 261 0,sv "/claim/cut.py" 479] }),
  (215,fob (dfAt 26) "open_gap" "emacs.overlaygaps" 455 214),
  (221,{ cls:=Value.type "code",data:=Data.fields #[sv "shift_nodes" 481,sv "shift_nodes" 482,sv "/claim/cut.py" 483,Value.int 273 0,Value.int 4 0,Value.int 0 0,Value.int 0 0,Value.int 3 0,Value.ref 216,Value.bool true,Value.int 181 0,Value.ref 217,Value.none,Value.ref 218,Value.ref 219,Value.ref 220,Value.int 490 0,Value.int 273 0,sv "/claim/cut.py" 491] }),
  (222,fob (dfAt 27) "shift_nodes" "emacs.overlaygaps" 455 221),
  (228,{ cls:=Value.type "code",data:=Data.fields #[sv "close_gap" 493,sv "close_gap" 494,sv "/claim/cut.py" 495,Value.int 290 0,Value.int 3 0,Value.int 0 0,Value.int 0 0,Value.int 3 0,Value.ref 223,Value.bool true,Value.int 181 0,Value.ref 224,Value.none,Value.ref 225,Value.ref 226,Value.ref 227,Value.int 501 0,Value.int 290 0,sv "/claim/cut.py" 502] }),
  (229,fob (dfAt 28) "close_gap" "emacs.overlaygaps" 455 228),
  (235,{ cls:=Value.type "code",data:=Data.fields #[sv "black_height" 504,sv "black_height" 505,sv "/claim/cut.py" 506,Value.int 309 0,Value.int 2 0,Value.int 0 0,Value.int 0 0,Value.int 3 0,Value.ref 230,Value.bool true,Value.int 181 0,Value.ref 231,Value.none,Value.ref 232,Value.ref 233,Value.ref 234,Value.int 511 0,Value.int 309 0,sv "/claim/cut.py" 512] }),
  (236,fob (dfAt 29) "black_height" "emacs.overlaygaps" 455 235),
  (242,{ cls:=Value.type "code",data:=Data.fields #[sv "nodes_from_below" 514,sv "nodes_from_below" 515,sv "/claim/cut.py" 516,Value.int 315 0,Value.int 1 0,Value.int 0 0,Value.int 0 0,Value.int 3 0,Value.ref 237,Value.bool true,Value.int 181 0,Value.ref 238,Value.none,Value.ref 239,Value.ref 240,Value.ref 241,Value.int 521 0,Value.int 315 0,sv "/claim/cut.py" 522] }),
  (243,fob (dfAt 30) "nodes_from_below" "emacs.overlaygaps" 455 242),
  (249,{ cls:=Value.type "code",data:=Data.fields #[sv "shape_error" 524,sv "shape_error" 525,sv "/claim/cut.py" 526,Value.int 326 0,Value.int 1 0,Value.int 0 0,Value.int 0 0,Value.int 3 0,Value.ref 244,Value.bool true,Value.int 181 0,Value.ref 245,Value.none,Value.ref 246,Value.ref 247,Value.ref 248,Value.int 529 0,Value.int 326 0,sv "/claim/cut.py" 530] }),
  (250,fob (dfAt 31) "shape_error" "emacs.overlaygaps" 455 249),
  (256,{ cls:=Value.type "code",data:=Data.fields #[sv "overlay_tree_error" 532,sv "overlay_tree_error" 533,sv "/claim/cut.py" 534,Value.int 338 0,Value.int 1 0,Value.int 0 0,Value.int 0 0,Value.int 3 0,Value.ref 251,Value.bool true,Value.int 181 0,Value.ref 252,Value.none,Value.ref 253,Value.ref 254,Value.ref 255,Value.int 540 0,Value.int 338 0,sv "/claim/cut.py" 541] }),
  (257,fob (dfAt 32) "overlay_tree_error" "emacs.overlaygaps" 455 256),
  (263,{ cls:=Value.type "code",data:=Data.fields #[sv "_law_draw" 545,sv "_law_draw" 546,sv "/claim/cut.py" 547,Value.int 352 0,Value.int 2 0,Value.int 0 0,Value.int 0 0,Value.int 3 0,Value.ref 258,Value.bool true,Value.int 181 0,Value.ref 259,Value.none,Value.ref 260,Value.ref 261,Value.ref 262,Value.int 550 0,Value.int 352 0,sv "/claim/cut.py" 551] }),
  (264,fob (dfAt 34) "_law_draw" "law_np0068_01" 543 263),
  (270,{ cls:=Value.type "code",data:=Data.fields #[sv "_law_laid" 553,sv "_law_laid" 554,sv "/claim/cut.py" 555,Value.int 357 0,Value.int 4 0,Value.int 0 0,Value.int 0 0,Value.int 3 0,Value.ref 265,Value.bool true,Value.int 181 0,Value.ref 266,Value.none,Value.ref 267,Value.ref 268,Value.ref 269,Value.int 565 0,Value.int 357 0,sv "/claim/cut.py" 566] }),
  (271,fob (dfAt 35) "_law_laid" "law_np0068_01" 543 270),
  (277,{ cls:=Value.type "code",data:=Data.fields #[sv "_law_came" 568,sv "_law_came" 569,sv "/claim/cut.py" 570,Value.int 364 0,Value.int 4 0,Value.int 0 0,Value.int 0 0,Value.int 3 0,Value.ref 272,Value.bool true,Value.int 181 0,Value.ref 273,Value.none,Value.ref 274,Value.ref 275,Value.ref 276,Value.int 581 0,Value.int 364 0,sv "/claim/cut.py" 582] }),
  (278,fob (dfAt 36) "_law_came" "law_np0068_01" 543 277),
  (282,{ cls:=Value.type "code",data:=Data.fields #[sv "_law_went" 584,sv "_law_went" 585,sv "/claim/cut.py" 586,Value.int 369 0,Value.int 3 0,Value.int 0 0,Value.int 0 0,Value.int 3 0,Value.ref 279,Value.bool true,Value.int 181 0,Value.ref 280,Value.none,Value.none,Value.none,Value.ref 281,Value.int 587 0,Value.int 369 0,sv "/claim/cut.py" 588] }),
  (283,fob (dfAt 37) "_law_went" "law_np0068_01" 543 282),
  (289,{ cls:=Value.type "code",data:=Data.fields #[sv "_law_done" 590,sv "_law_done" 591,sv "/claim/cut.py" 592,Value.int 372 0,Value.int 4 0,Value.int 0 0,Value.int 0 0,Value.int 3 0,Value.ref 284,Value.bool true,Value.int 181 0,Value.ref 285,Value.none,Value.ref 286,Value.ref 287,Value.ref 288,Value.int 604 0,Value.int 372 0,sv "/claim/cut.py" 605] }),
  (290,fob (dfAt 38) "_law_done" "law_np0068_01" 543 289),
  (294,{ cls:=Value.type "code",data:=Data.fields #[sv "_law_is_right" 607,sv "_law_is_right" 608,sv "/claim/cut.py" 609,Value.int 397 0,Value.int 3 0,Value.int 0 0,Value.int 0 0,Value.int 3 0,Value.ref 291,Value.bool true,Value.int 181 0,Value.ref 292,Value.none,Value.none,Value.none,Value.ref 293,Value.int 610 0,Value.int 397 0,sv "/claim/cut.py" 611] }),
  (295,fob (dfAt 39) "_law_is_right" "law_np0068_01" 543 294)
  ]
noncomputable def fAt:Fid→Addr
  | .handDown=>63
  | .handDownTo=>70
  | .greatestEnd=>77
  | .renewLimits=>84
  | .hang=>91
  | .turnLeft=>98
  | .turnRight=>105
  | .isRed=>112
  | .colourInserted=>119
  | .turnedInward=>126
  | .putNode=>133
  | .firstBelow=>140
  | .takePlace=>147
  | .dropNode=>154
  | .colourDropped=>161
  | .siblingOf=>168
  | .turnTowards=>175
  | .lightened=>182
  | .allNodesInOrder=>189
  | .nodesBetween=>196
  | .beginsToMove=>203
  | .grows=>210
  | .openGap=>215
  | .shiftNodes=>222
  | .closeGap=>229
  | .blackHeight=>236
  | .nodesFromBelow=>243
  | .shapeError=>250
  | .overlayTreeError=>257
  | .lawDraw=>264
  | .lawLaid=>271
  | .lawCame=>278
  | .lawWent=>283
  | .lawDone=>290
  | .lawIsRight=>295
noncomputable def fIx:Fid→Nat
  | .handDown=>3
  | .handDownTo=>4
  | .greatestEnd=>5
  | .renewLimits=>6
  | .hang=>7
  | .turnLeft=>8
  | .turnRight=>9
  | .isRed=>10
  | .colourInserted=>11
  | .turnedInward=>12
  | .putNode=>13
  | .firstBelow=>14
  | .takePlace=>15
  | .dropNode=>16
  | .colourDropped=>17
  | .siblingOf=>18
  | .turnTowards=>19
  | .lightened=>20
  | .allNodesInOrder=>21
  | .nodesBetween=>22
  | .beginsToMove=>24
  | .grows=>25
  | .openGap=>26
  | .shiftNodes=>27
  | .closeGap=>28
  | .blackHeight=>29
  | .nodesFromBelow=>30
  | .shapeError=>31
  | .overlayTreeError=>32
  | .lawDraw=>34
  | .lawLaid=>35
  | .lawCame=>36
  | .lawWent=>37
  | .lawDone=>38
  | .lawIsRight=>39
noncomputable def fMd:Fid→String × Nat
  | .handDown=>("emacs.overlaytree",187)
  | .handDownTo=>("emacs.overlaytree",187)
  | .greatestEnd=>("emacs.overlaytree",187)
  | .renewLimits=>("emacs.overlaytree",187)
  | .hang=>("emacs.overlaytree",187)
  | .turnLeft=>("emacs.overlaytree",187)
  | .turnRight=>("emacs.overlaytree",187)
  | .isRed=>("emacs.overlaytree",187)
  | .colourInserted=>("emacs.overlaytree",187)
  | .turnedInward=>("emacs.overlaytree",187)
  | .putNode=>("emacs.overlaytree",187)
  | .firstBelow=>("emacs.overlaytree",187)
  | .takePlace=>("emacs.overlaytree",187)
  | .dropNode=>("emacs.overlaytree",187)
  | .colourDropped=>("emacs.overlaytree",187)
  | .siblingOf=>("emacs.overlaytree",187)
  | .turnTowards=>("emacs.overlaytree",187)
  | .lightened=>("emacs.overlaytree",187)
  | .allNodesInOrder=>("emacs.overlaytree",187)
  | .nodesBetween=>("emacs.overlaytree",187)
  | .beginsToMove=>("emacs.overlaygaps",455)
  | .grows=>("emacs.overlaygaps",455)
  | .openGap=>("emacs.overlaygaps",455)
  | .shiftNodes=>("emacs.overlaygaps",455)
  | .closeGap=>("emacs.overlaygaps",455)
  | .blackHeight=>("emacs.overlaygaps",455)
  | .nodesFromBelow=>("emacs.overlaygaps",455)
  | .shapeError=>("emacs.overlaygaps",455)
  | .overlayTreeError=>("emacs.overlaygaps",455)
  | .lawDraw=>("law_np0068_01",543)
  | .lawLaid=>("law_np0068_01",543)
  | .lawCame=>("law_np0068_01",543)
  | .lawWent=>("law_np0068_01",543)
  | .lawDone=>("law_np0068_01",543)
  | .lawIsRight=>("law_np0068_01",543)
noncomputable def addrs:List Nat:=[3,27,28,30,31,48,49,51,52,62,63,69,70,76,77,83,84,90,91,97,98,104,105,111,112,118,119,125,126,132,133,139,140,146,147,153,154,160,161,167,168,174,175,181,182,188,189,195,196,202,203,209,210,214,215,221,222,228,229,235,236,242,243,249,250,256,257,263,264,270,271,277,278,282,283,289,290,294,295]
theorem addrs_ok:∀ P,addrs = (KK P).map (·.1):=fun _=>by kernel_rfl
noncomputable def HK:Hook:=kHook KK addrs addrs_ok
noncomputable def qq:Program:=PySem.W.view pp [1,2,3,4,5,6,7,8,9,10,11,12,13,14,15,16,17,18,19,20,21,22,24,25,26,27,28,29,30,31,32,34,35,36,37,38,39,40]
noncomputable abbrev s0 (w:World) (os:OsState):Shared:=⟨boot_heap w.params,#[],boot_drawn,boot_toks,os⟩
theorem left_of {p q:Program} {loose:List Str} {Xt:Shared→Bool} {α:Type} {Yf:Shared→α} {Ya:World→α} {N:Nat} (e:opening p = plainProg p.main.scope.names) (hN:Nat.ble 600 N = true) (f:∀ s,fenceModules? p s = some s)
    (run:∀ w os,(topFrom treeTable p w N (s0 w os)).map (fun s=>(openSeen q loose (importedModules p.main.body) Xt true s,Yf s)) = some (openGood q loose,Ya w)):LeftO p q loose Xt Yf Ya N:=fun w=>by
  obtain ⟨s,h,hv⟩:=Option.map_eq_some_iff.mp (boot_open e hN f w)
  unfold openEnds
  rw [h]
  obtain ⟨hp,g,d,t,os⟩:=s
  cases hv
  exact run w os
noncomputable abbrev rr:OpenRow:=PySem.Challenge.rw_np0068_01.row
noncomputable abbrev Xt0:Shared→Bool:=fun s=>xlAt qq [] s && recOk (RowW.records rr.toRowW) s
set_option maxRecDepth 1000000
set_option maxHeartbeats 0
theorem run1:∀ w os,(topFrom treeTable pp w 1700 (s0 w os)).map (fun s=>(openSeen qq [] (importedModules pp.main.body) Xt0 true s,HK.obs s)) = some (openGood qq [],HK.val w):=fun w os=>by
  unfold topFrom
  rw [PySem.W.Fast.te14364793385576792824,PySem.W.Fast.te14082659384304107361,PySem.W.Fast.te4187177175401517315]
  kernel_rfl
theorem leftP:LeftO pp qq [] Xt0 HK.obs HK.val 1700:=left_of (by kernel_rfl) (by kernel_rfl) (fun s=>by kernel_rfl) run1
end Mine
end
section
open PySem PySem.W PyProof.Rows PySem.Calls
namespace Mine
set_option maxRecDepth 1000000
set_option maxHeartbeats 4000000
theorem hd (walk:∀ d kwd,defOf qq rr.name = some (d,kwd)→WalkO qq [] (XL qq []) HK.says rr.toRowW d kwd fun f vs=>PySem.call f vs):PySem.Challenge.rw_np0068_01.Holds:=by
  refine holds_law ((congrFun PySem.W.Fast.te9446332074065402090 _).trans (by kernel_rfl)) fun said=>?_
  have hd:∃ d kwd,defOf qq rr.name = some (d,kwd)∧rr.prog.theDef rr.name = some (d.params,d.body,d.scope)∧kwWritten? d.params.kwonlyargs d.params.kw_defaults = some kwd:=⟨_,_,by rfl,by rfl,by rfl⟩
  obtain ⟨d,kwd,h1,h2,h3⟩:=hd
  refine holds_open (q:=qq) (loose:=[]) (Xt:=Xt0) (XP:=XL qq []) (Yf:=HK.obs) (Ya:=HK.val) (YP:=HK.says) (N:=1700) leftP HK.of HK.keeps (fun s e=>xl_of s (Bool.and_eq_true_iff.mp e).1) XL.keeps h1 h2 h3
    (fun s e=>recFacts_of (Bool.and_eq_true_iff.mp e).2) (by rfl) said (by decide +kernel) ⟨rfl,rfl,rfl,rfl,rfl,by decide +kernel⟩ ?_ (walk d kwd h1)
  w_witness2
end Mine
end
section
open PySem PySem.W PyProof.Rows PySem.Calls
set_option maxRecDepth 100000
set_option maxHeartbeats 8000000
namespace Mine
noncomputable def recF (f:Fid):FnRec where
  name:=(dfAt (fIx f)).name
  qual:=f.nm
  params:=(dfAt (fIx f)).params
  body:=(dfAt (fIx f)).body
  scope:=(dfAt (fIx f)).scope
  dV:=.none
  kV:=.none
  doc:=.none
  pm:=sv (fMd f).1 (fMd f).2
  an:=none
  cdv:=.ref (fAt f - 1)
  ct:=.none
  oc:=.type "function"
  od:=none
  osl:=#[]
  as:=(dfAt (fIx f)).params.args.map (·.arg)
noncomputable def recI (i j:Nat) (q:String) (cd:Addr):FnRec where
  name:=(dfIn i j).name
  qual:=Str.ofString q
  params:=(dfIn i j).params
  body:=(dfIn i j).body
  scope:=(dfIn i j).scope
  dV:=.none
  kV:=.none
  doc:=.none
  pm:=sv "emacs.overlaytree" 187
  an:=none
  cdv:=.ref cd
  ct:=.none
  oc:=.type "function"
  od:=none
  osl:=#[]
  as:=(dfIn i j).params.args.map (·.arg)
noncomputable def scopeOk (r:FnRec):Bool:=!r.scope.isCoroutine && !r.scope.isGenerator && r.scope.kind == .function
noncomputable def fnOk (r:FnRec) (f:Fid):Bool:=scopeOk r && decide ((cellsFrom 0 r.scope.names []).map (·.1)).Nodup && r.as.length == (fnD f).args && decide r.as.Nodup &&
  decide ((slotsOf f).take r.as.length = r.as.map some) && r.as.all (fun x=>r.scope.names.lookup x == some .local || r.scope.names.lookup x == some .cell) && decide ((slotsOf f).filterMap id).Nodup
theorem scope_of {r:FnRec} (h:scopeOk r = true):r.scope.isCoroutine = false∧r.scope.isGenerator = false∧r.scope.kind = .function:=by
  unfold scopeOk at h
  simp only [Bool.and_eq_true,Bool.not_eq_true'] at h
  exact ⟨h.1.1,h.1.2,by have:=h.2; cases e:r.scope.kind <;> rw [e] at this <;> first | rfl | cases this⟩
theorem nodup_slots:∀ {sl:List (Option Str)},(sl.filterMap id).Nodup→∀ (i j:Nat) (x:Str),sl[i]? = some (some x)→sl[j]? = some (some x)→i = j
  | [],_,i,_,_,h,_=>by simp at h
  | o :: r,nd,i,j,x,hi,hj=>by
    have key:∀ (k:Nat),r[k]? = some (some x)→x ∈ r.filterMap id:=fun k hk=>List.mem_filterMap.mpr ⟨_,List.mem_of_getElem? hk,rfl⟩
    cases o with
    | none =>
      cases i with
      | zero=>simp at hi
      | succ i =>
        cases j with
        | zero=>simp at hj
        | succ j=>exact congrArg Nat.succ (nodup_slots (by simpa using nd) i j x (by simpa using hi) (by simpa using hj))
    | some y =>
      rw [show (some y :: r).filterMap id = y :: r.filterMap id from rfl,List.nodup_cons] at nd
      cases i with
      | zero =>
        cases j with
        | zero=>rfl
        | succ j =>
          have:y = x:=by simpa using hi
          subst this
          exact absurd (key j (by simpa using hj)) nd.1
      | succ i =>
        cases j with
        | zero =>
          have:y = x:=by simpa using hj
          subst this
          exact absurd (key i (by simpa using hi)) nd.1
        | succ j=>exact congrArg Nat.succ (nodup_slots nd.2 i j x (by simpa using hi) (by simpa using hj))
theorem fnIn_of {K:Frag} {f:Fid} {r:FnRec} (lk:K.lookup (fAt f) = some ⟨r.oc,r.od,.func r.fd,r.osl⟩) (cd:codeIn K r.cdv r.qual = true) (bind:∀ vals:List Value,vals.length = r.as.length→bindArgs r.fd ⟨vals,[]⟩ = pure (r.as.zip vals))
    (ok:fnOk r f = true):FnIn K fAt f r:=by
  unfold fnOk at ok
  simp only [Bool.and_eq_true,decide_eq_true_eq,beq_iff_eq] at ok
  obtain ⟨⟨⟨⟨⟨⟨h1,h2⟩,h3⟩,h4⟩,h5⟩,h6⟩,h7⟩:=ok
  obtain ⟨s1,s2,s3⟩:=scope_of h1
  refine ⟨lk,cd,bind,s1,s2,s3,h2,h3,h4,fun i x hx=>?_,fun x hx=>?_,nodup_slots h7⟩
  · have hi:i < r.as.length:=(List.getElem?_eq_some_iff.mp hx).1
    have:=congrArg (fun l=>l[i]?) h5
    rw [List.getElem?_take_of_lt hi,List.getElem?_map,hx] at this
    exact this
  · have:=List.all_eq_true.mp h6 x hx
    simpa using this
theorem fn_lk (P:Params):∀ f,(KK P).lookup (fAt f) = some ⟨(recF f).oc,(recF f).od,.func (recF f).fd,(recF f).osl⟩:=fun f=>by cases f <;> kernel_rfl
theorem fn_cd (P:Params):∀ f,codeIn (KK P) (recF f).cdv (recF f).qual = true:=fun f=>by cases f <;> kernel_rfl
theorem fn_ok:∀ f,fnOk (recF f) f = true:=fun f=>by cases f <;> kernel_rfl
noncomputable abbrev Bd (f:Fid) (vals:List Value):Prop:=bindArgs (recF f).fd ⟨vals,[]⟩ = pure ((recF f).as.zip vals)
noncomputable def BdN (f:Fid):Nat→Prop
  | 1=>∀ v1,Bd f [v1]
  | 2=>∀ v1 v2,Bd f [v1,v2]
  | 3=>∀ v1 v2 v3,Bd f [v1,v2,v3]
  | 4=>∀ v1 v2 v3 v4,Bd f [v1,v2,v3,v4]
  | _=>False
theorem bd_all:∀ f,BdN f (fnD f).args:=fun f=>by
  cases f <;> first | exact fun v1=>by kernel_rfl | exact fun v1 v2=>by kernel_rfl | exact fun v1 v2 v3=>by kernel_rfl | exact fun v1 v2 v3 v4=>by kernel_rfl
theorem fn_bd:∀ f (vals:List Value),vals.length = (recF f).as.length→bindArgs (recF f).fd ⟨vals,[]⟩ = pure ((recF f).as.zip vals):=fun f vals h=>by
  have A:(recF f).as.length = (fnD f).args:=by
    have:=fn_ok f
    unfold fnOk at this
    simp only [Bool.and_eq_true,beq_iff_eq] at this
    exact this.1.1.1.1.2
  rw [A] at h
  have B:=bd_all f
  rw [← h] at B
  show Bd f vals
  clear A h
  match vals,B with
  | [v1],B=>exact B v1
  | [v1,v2],B=>exact B v1 v2
  | [v1,v2,v3],B=>exact B v1 v2 v3
  | [v1,v2,v3,v4],B=>exact B v1 v2 v3 v4
  | [],B=>exact B.elim
  | _ :: _ :: _ :: _ :: _ :: _,B=>exact B.elim
theorem fn_body:∀ f,ofSs (recF f).scope.names (slotsOf f) (recF f).body = (fnD f).body:=fun f=>by cases f <;> kernel_rfl
theorem fn_in (P:Params) (f:Fid):FnIn (KK P) fAt f (recF f):=fnIn_of (fn_lk P f) (fn_cd P f) (fn_bd f) (fn_ok f)
noncomputable def rN:FnRec:=recI 1 0 "OverlayNode.__init__" 27
noncomputable def rT:FnRec:=recI 2 0 "OverlayTree.__init__" 48
noncomputable def initOk (r:FnRec) (nms:List Str):Bool:=scopeOk r && r.scope.names.all (fun x=>x.2 != .cell) && nms.all fun x=>r.scope.names.lookup x == some .local
theorem initIn_of {K:Frag} {C fI:Addr} {r:FnRec} {nms:List Str} {srcs:List (Fld × Src)} (mak:makesIn K C = true) (fi:findIn K (.ref C) "__init__" = some (some (.ref fI))) (fn:isFn K (.ref fI) = true) (kp:keepIn K (.ref C) = true)
    (lk:K.lookup fI = some ⟨r.oc,r.od,.func r.fd,r.osl⟩) (cd:codeIn K r.cdv r.qual = true) (bind:∀ vals:List Value,vals.length = nms.length→bindArgs r.fd ⟨vals,[]⟩ = pure (nms.zip vals)) (ok:initOk r nms = true) (run:initRun r.body = some srcs):InitIn K C fI r nms srcs:=by
  unfold initOk at ok
  simp only [Bool.and_eq_true] at ok
  obtain ⟨s1,s2,s3⟩:=scope_of ok.1.1
  exact ⟨mak,fi,fn,kp,lk,cd,bind,s1,s2,s3,fun x hx=>by have:=List.all_eq_true.mp ok.1.2 x hx; simpa using this,fun x hx=>by have:=List.all_eq_true.mp ok.2 x hx; simpa using this,run⟩
theorem initN (P:Params):InitIn (KK P) 31 28 rN initNames initSrcs:=initIn_of (by kernel_rfl) (by kernel_rfl) (by kernel_rfl) (by kernel_rfl) (by kernel_rfl) (by kernel_rfl)
  (fun vals h=>by rcases vals with _ | ⟨v1,_ | ⟨v2,_ | ⟨v3,_ | ⟨v4,_ | ⟨v5,_ | ⟨v6,_ | ⟨v7,_⟩⟩⟩⟩⟩⟩⟩ <;> first | (cases h; done) | kernel_rfl) (by kernel_rfl) (by kernel_rfl)
theorem initT (P:Params):InitIn (KK P) 52 49 rT ["self"] treeSrcs:=initIn_of (by kernel_rfl) (by kernel_rfl) (by kernel_rfl) (by kernel_rfl) (by kernel_rfl) (by kernel_rfl)
  (fun vals h=>by rcases vals with _ | ⟨v1,_ | ⟨v2,_⟩⟩ <;> first | (cases h; done) | kernel_rfl) (by kernel_rfl) (by kernel_rfl)
theorem glob_fn (P:Params):∀ f:Fid,nsIn (KK P) mainGlobals f.nm = some (some (.ref (fAt f))):=fun f=>by cases f <;> kernel_rfl
theorem kp_fn (P:Params):∀ f:Fid,keepIn (KK P) (.ref (fAt f)) = true:=fun f=>by cases f <;> kernel_rfl
theorem bi_fn (P:Params):∀ x ∈ (["max","abs","len","sorted","range"]:List Str),nsIn (KK P) mainGlobals x = some none:=by
  intro x hx
  have h5:x = "max" ∨ x = "abs" ∨ x = "len" ∨ x = "sorted" ∨ x = "range":=by simpa using hx
  rcases h5 with rfl | rfl | rfl | rfl | rfl <;> kernel_rfl
section
variable (w:World) (mg mb:Str→Option Value)
noncomputable def WW:Wld:={ prog:=pp,w:=w,K:=KK w.params,p:=qq,loose:=looseW qq [],mg:=mg,mb:=mb,cl:=⟨31,52⟩,fa:=fAt }
theorem ww_all:(WW w mg mb).All 28 rN where
  KF:=⟨glob_fn w.params,kp_fn w.params,bi_fn w.params⟩
  KC:=by
    refine ⟨?_,?_,?_,?_,?_,?_⟩
    · rintro C (rfl | rfl) f <;> kernel_rfl
    · rintro C (rfl | rfl) <;> kernel_rfl
    · rintro C (rfl | rfl) f <;> cases f <;> kernel_rfl
    · rintro C (rfl | rfl) <;> kernel_rfl
    · rintro C (rfl | rfl) <;> kernel_rfl
    · rintro C (rfl | rfl) f <;> cases f <;> kernel_rfl
  ab:=by kernel_rfl
  I:=initN w.params
  gl:=by kernel_rfl
theorem ww_cal:∀ n,CalOk (WW w mg mb) (wpFn fnD n) n:=cal_ok (ww_all w mg mb) fun f=>⟨recF f,fn_in w.params f,fn_body f⟩
end
end Mine
end
section
open PySem PySem.W PyProof.Rows PySem.Calls
set_option maxRecDepth 100000
set_option maxHeartbeats 8000000
namespace Mine
noncomputable def PlainLaw:Prop:=wpSs (wpFn fnD 12) b_law (fun fl _ _=>fl = .ret (.bool true)) (List.replicate 7 none) (fun _=>none)
section
variable {W:Wld} {c:Cfg} {n:Nat} {m:Str→Option Value} {s:Shared} {X:Value→Shared→Prop} {ns:Nms} {Γ:Cal}
theorem law_ok {fI fT:Addr} {r rt:FnRec} (G:W.All fI r) (hΓ:CalOk W Γ n) (IT:InitIn W.K W.cl.tree fT rt ["self"] treeSrcs) (hgl:nsIn W.K mainGlobals ("OverlayTree":Str) = some (some (.ref W.cl.tree)))
    {ts:List PySem.Expr} {k k' k0 kz:Nat} {p p' pos p0 q1 q2 q3 q4 q5 q6 q7 q8 q9 q10 q10':Pos} {pe:PySem.Expr} {xn x tx:Str} {sc:Scope} {rest:List Stmt}
    {body:List Stmt} (hb:body = .Assign [.Tuple ts k p] (.Tuple [.List [.ListComp pe [⟨.Name xn q1,.Subscript (.Name x q2) (.Slice none (some (.Constant (.int 63) k0 q3)) none q4) q5,[],0⟩] sc q6,.Constant (.int 0) kz p0] q7,.Call (.Name tx q8) [] [] q9,.List [] q10,.Dict [] [] q10'] k' p') pos :: rest)
    (h1:namesOk ns slotsLaw [1,2,3,4] ts = true) (hz:ts.length ≤ 100) (hK:compScOk ns xn sc = true) (helt:ofE 20 false (compNs ns sc.names) (compSl ns sc.names slotsLaw 6 xn) pe = .abs (.var 6))
    (htx:(tx == ("OverlayTree":Str)) = true) (hgx:globOk ns tx = true) (hx:ns.lookup x = some .local) (hxd:(x == ("__debug__":Str)) = false) (hrest:ofSs ns slotsLaw rest = b_lawR)
    (lo:c.env.locals = c.L) (eo:EnvOk c.env ns) (ca:CellsAll c.env ns) (hs:swapsWithSole [.Tuple ts k p] (.Tuple [.List [.ListComp pe [⟨.Name xn q1,.Subscript (.Name x q2) (.Slice none (some (.Constant (.int 63) k0 q3)) none q4) q5,[],0⟩] sc q6,.Constant (.int 0) kz p0] q7,.Call (.Name tx q8) [] [] q9,.List [] q10,.Dict [] [] q10'] k' p') pos.line c.env = pure false)
    (hw:swappedStores [.Tuple ts k p] (.Tuple [.List [.ListComp pe [⟨.Name xn q1,.Subscript (.Name x q2) (.Slice none (some (.Constant (.int 63) k0 q3)) none q4) q5,[],0⟩] sc q6,.Constant (.int 0) kz p0] q7,.Call (.Name tx q8) [] [] q9,.List [] q10,.Dict [] [] q10'] k' p') c.env = pure none)
    {la:Addr} {us:List Value} {is:List Int} (hl:c.h₀.IsList la us.toArray) (hi:IntsAre us is) (hlen:is.length ≤ 63) (hm:m x = some (.ref la))
    {Q:Fl→Lc→Hp→Prop} {ρ:Lc} {σ:Hp} (h:wpSs Γ b_law Q ρ σ) {priv pr news:News1} (a:AtS W c n m priv pr news s σ ρ ns slotsLaw):wpAny W.M c.A (execs body c.env) (PS W c n priv s news ns slotsLaw Q) X s:=by
  subst hb
  have e:wpSs Γ b_law Q ρ σ = wpS Γ (.asgTup [1,2,3,4] (.cons (.list (.cons (.comp 6 (.abs (.var 6)) .given) (.cons (.int 0) .nil))) (.cons .newTree (.cons (.list .nil) (.cons .emptyDict .nil)))))
    (fun fl ρ σ=>match fl with | .next=>wpSs Γ b_lawR Q ρ σ | .ret v=>Q (.ret v) ρ σ) ρ σ:=rfl
  rw [e] at h
  have hg:SndE W Γ c n m pr ρ ns slotsLaw .given (.Subscript (.Name x q2) (.Slice none (some (.Constant (.int 63) k0 q3)) none q4) q5):=snd_given lo hl hi hlen hx hxd hm
  have hc:SndE W Γ c n m pr ρ ns slotsLaw (.comp 6 (.abs (.var 6)) .given) (.ListComp pe [⟨.Name xn q1,.Subscript (.Name x q2) (.Slice none (some (.Constant (.int 63) k0 q3)) none q4) q5,[],0⟩] sc q6):=fun Q σ s news X h a =>
    snd_comp_of (Cw:=fun _ _ K σ=>K (.bool true) σ) ⟨lo,ca,scOk_of hK,fun cl C ca m ρ pr sv Kb σ s news X h a=>tests_nil h a,fun cl C ca=>by
      have:=(snd_all G hΓ 20 false (compNs ns sc.names) (compSl ns sc.names slotsLaw 6 xn) pe (c.comp sc cl C) (fun x=>nomatch x) (comp_eo eo (scOk_of hK) cl C)).1
      rw [helt] at this
      exact this⟩ rfl hg h a
  have hE:SndEs W Γ c n m pr ρ ns slotsLaw (.cons (.list (.cons (.comp 6 (.abs (.var 6)) .given) (.cons (.int 0) .nil))) (.cons .newTree (.cons (.list .nil) (.cons .emptyDict .nil))))
      [.List [.ListComp pe [⟨.Name xn q1,.Subscript (.Name x q2) (.Slice none (some (.Constant (.int 63) k0 q3)) none q4) q5,[],0⟩] sc q6,.Constant (.int 0) kz p0] q7,.Call (.Name tx q8) [] [] q9,.List [] q10,.Dict [] [] q10'] :=
    snds_cons rfl (snd_list (snds_cons rfl hc (snds_cons rfl snd_const_int snds_nil))) (snds_cons rfl (snd_newTree G.KC IT hgl htx hgx m pr ρ) (snds_cons rfl (snd_list snds_nil) (snds_cons rfl snd_emptyDict snds_nil)))
  refine wpAny_execs_cons (wpAny_mono (snd_asgTup h1 hz hs hw hE h a) (fun fl s' z=>?_) fun _ _ x=>x)
  obtain ⟨h',tk,m',pr',news',ρ',σ',f,rfl,a',P,r',q⟩:=z
  cases f with
  | next =>
    cases fl <;> first | exact r'.elim | skip
    dsimp only at q
    rw [← hrest] at q
    exact wpAny_mono (sndSs_all G hΓ lo ca eo rest Q ρ' σ' _ m' priv pr' news' X q a') (fun _ _ z=>z.trans P) fun _ _ x=>x
  | ret sv =>
    cases fl <;> first | exact r'.elim | skip
    exact ⟨h',tk,m',pr',news',ρ',σ',.ret sv,rfl,a',P,r',q⟩
end
noncomputable def lawD:DefRec:={ name:=(dfAt 40).name,params:=(dfAt 40).params,body:=(dfAt 40).body,scope:=(dfAt 40).scope,pos:=(dfAt 40).pos }
theorem lawD_def:defOf qq rr.name = some (lawD,[]):=by kernel_rfl
theorem law_kind:lawD.scope.kind = .function:=by kernel_rfl
theorem law_nocell:lawD.scope.names.all (fun x=>x.2 != .cell) = true:=by kernel_rfl
local macro_rules | `(tactic| k_qdec)=>`(tactic| decide +kernel)
theorem law_walk (h:PlainLaw):WalkO qq [] (XL qq []) HK.says rr.toRowW lawD [] (fun f vs=>PySem.call f vs):=by
  w_on
  intro w s₀ s₁ mg mb G Y fa o pm cd doc dV kV ho hd hcd hD hmg hg args vals as hpre hlay hrd hwl hlo
  have KX:(KK w.params).In s₁.heap:=kIn_of Y
  k_behind G ho hd hcd hD hmg hpre hlay hrd hwl hlo cd
  rename_i X V GL T B TE TW a9 a8 M a7 a6 is hs hlay0 hL1 hr1 hl2 a4 a3 la us a0 hL ra w1 r0 hI hr hc1 hc2 K0 h₁ F N0
  have hlen:is.length ≤ 63:=by omega
  obtain ⟨m0,hm0,F⟩:∃ m0:Str→Option Value,m0 ("script":Str) = some (.ref la)∧Fr s₁.heap s₁.heap.objs.size h₁ m0:=⟨_,by rfl,F⟩
  let env:Env:=envOf lawD.name lawD.scope s₁.heap.objs.size fa (.ref a7)
  let c:Cfg:={ A₀:=callerA,A:=callerA.deeper env,base:=s₁.heap,outer:=[],h₀:=s₁.heap,fenv:=env,L:=s₁.heap.objs.size,env:=env }
  have B₀:Below callerA s₁.heap [] s₁.heap:=below_caller s₁.heap
  have ok:c.Ok (WW w mg mb) 12:=⟨B₀,Around.frames_deeper B₀.stack,rfl,law_kind,rfl,KX,topRead_of T,by show callerA.depth + 1 + 12 < 600; decide,by show callerA.units + 3 + 3 * 12 < 9000; decide⟩
  have nc:∀ y:Str,lawD.scope.names.lookup y ≠ some .cell:=fun y e=>by
    have:=List.all_eq_true.mp law_nocell _ (mem_lookup e)
    exact absurd this (by simp)
  have eo:EnvOk c.env lawD.scope.names:=⟨law_kind,rfl,rfl,rfl⟩
  have ca:CellsAll c.env lawD.scope.names:=fun y hy=>absurd hy (nc y)
  refine wpAny_mono (law_ok (W:=WW w mg mb) (c:=c) (n:=12) (ns:=lawD.scope.names) (ww_all w mg mb) (ww_cal w mg mb 12) (initT w.params) (by kernel_rfl) (hb:=by rfl) (by kernel_rfl) (by decide) (by kernel_rfl) (by kernel_rfl) (by kernel_rfl) (by kernel_rfl) (by kernel_rfl) (by kernel_rfl) (by kernel_rfl) rfl eo ca (by rfl) (by rfl)
    (hl:=hL) (hi:=hI) hlen hm0 h (priv:=[]) (pr:=[]) (news:=[]) ?_) (fun fl s' z=>?_) fun _ _ x=>x
  · refine ⟨⟨ok,eo,F,N0,⟨.nil,fun _ h=>(nomatch h),fun a o e=>(nomatch e),fun _ _ _ _ _ h=>(nomatch h),fun _ _ _ h=>(nomatch h),fun _ _ _ h=>(nomatch h)⟩,fun i x sv h1 h2=>?_⟩,rfl,⟨fun _ h=>(nomatch h),fun x e=>absurd e (nc x),fun x y cc e _=>(nomatch e)⟩,nodup_slots (by decide +kernel)⟩
    unfold rd at h2
    rw [List.getElem?_replicate] at h2
    split at h2 <;> cases h2
  · obtain ⟨h',tk,m',pr',news',ρ',σ',f,rfl,a',P,r',q⟩:=z
    subst q
    cases fl <;> first | exact r'.elim | skip
    rename_i v
    obtain rfl:v = .bool true:=r'
    exact goodW_bool a'.at_.F hg (fun cls=>by rfl) (by first | kernel_rfl | exact postW_of (r:=rr.toRowW) (by rfl) (X:=true) (by rfl) rfl | exact postW_of (r:=rr.toRowW) (by kernel_rfl) (X:=true) (by kernel_rfl) rfl | w_report)
theorem holds_of_plain (h:PlainLaw):PySem.Challenge.rw_np0068_01.Holds:=hd fun d kwd e=>by
  rw [lawD_def] at e
  cases e
  exact law_walk h
end Mine
end
end
namespace Mine
noncomputable def gL (σ:Hp):Option Nat→Option (Option Int)
  | none=>some none
  | some a=>match σ a with
    | some (.node n)=>some (some (n.limit + n.offset))
    | _=>none
noncomputable def mxo (a:Int):Option Int→Int
  | none=>a
  | some b=>if b > a then b else a
noncomputable def evCall (σ:Hp):Fid→SV→Option SV
  | .isRed,.none=>some (.bool false)
  | .isRed,.ref a=>(match σ a with | some (.node n)=>some (.bool n.red) | _=>none)
  | .greatestEnd,.ref a=>(match σ a with
      | some (.node n)=>(gL σ n.left).bind fun x=>(gL σ n.right).map fun y=>.int (mxo (mxo n.end_ x) y)
      | _=>none)
  | _,_=>none
noncomputable def ev (σ:Hp) (ρ:Lc):E→Option SV
  | .none=>some .none
  | .bool b=>some (.bool b)
  | .int n=>some (.int n)
  | .negC n=>some (.int (-(n:Int)))
  | .var i=>rd ρ i
  | .attr e f=>(ev σ ρ e).bind fun v=>getF σ v f
  | .bin op a b=>(ev σ ρ a).bind fun v=>(ev σ ρ b).bind fun w=>v.asInt.bind fun i=>w.asInt.bind fun j=>(arith op i j).map .int
  | .cmp op a b=>(ev σ ρ a).bind fun v=>(ev σ ρ b).bind fun w=>v.asInt.bind fun i=>w.asInt.map fun j=>.bool (cmpI op i j)
  | .is neg a b=>(ev σ ρ a).bind fun v=>(ev σ ρ b).bind fun w=>(match v,w with
      | .none,.none=>some (.bool !neg)
      | .ref _,.none=>some (.bool neg)
      | .none,.ref _=>some (.bool neg)
      | .ref p,.ref q=>if (σ p).isSome && (σ q).isSome then some (.bool (neg != decide (p = q))) else none
      | _,_=>none)
  | .not a=>(ev σ ρ a).bind fun v=>v.asBool.map fun b=>.bool !b
  | .and a b=>(ev σ ρ a).bind fun v=>v.asBool.bind fun t=>if t then ev σ ρ b else some v
  | .or a b=>(ev σ ρ a).bind fun v=>v.asBool.bind fun t=>if t then some v else ev σ ρ b
  | .ite c a b=>(ev σ ρ c).bind fun v=>v.asBool.bind fun t=>if t then ev σ ρ a else ev σ ρ b
  | .max a b=>(ev σ ρ a).bind fun v=>(ev σ ρ b).bind fun w=>v.asInt.bind fun i=>w.asInt.map fun j=>.int (if j > i then j else i)
  | .len a=>(ev σ ρ a).bind fun v=>(listAt σ v).bind fun vs=>if vs.length < 2 ^ 20 then some (.int vs.length) else none
  | .idx a b=>(ev σ ρ a).bind fun v=>(ev σ ρ b).bind fun w=>getAt σ v w
  | .call f (.cons a .nil)=>(ev σ ρ a).bind fun v=>evCall σ f v
  | .tri a b c=>(ev σ ρ a).bind fun v=>(ev σ ρ b).bind fun w=>(ev σ ρ c).bind fun x=>v.asInt.bind fun i=>w.asInt.bind fun j=>x.asInt.map fun k=>.tri i j k
  | _=>none
noncomputable def evs (σ:Hp) (ρ:Lc):Es→Option (List SV)
  | .nil=>some []
  | .cons e r=>(ev σ ρ e).bind fun v=>(evs σ ρ r).map fun vs=>v :: vs
theorem getF_node {σ:Hp} {i:Nat} {n:Nd} {f:Fld} (h:σ i = some (.node n)):getF σ (.ref i) f = n.get f:=by
  unfold getF SV.asRef
  rw [Option.bind_some,h]
  rfl
theorem gL_some {σ:Hp} {b:Nat} {z:Option Int} (h:gL σ (some b) = some z):∃ m,σ b = some (.node m)∧z = some (m.limit + m.offset):=by
  unfold gL at h
  dsimp only at h
  split at h
  · rename_i m hm
    cases h
    exact ⟨m,hm,rfl⟩
  · cases h
theorem isRed_ok {n:Nat} {σ:Hp} {v w:SV} {Q:SV→Hp→Prop} (h:evCall σ .isRed v = some w) (q:Q w σ):wpFn fnD (n + 1) .isRed [v] Q σ:=by
  cases v <;> first | (cases h; done) | skip
  · cases h
    exact ⟨rfl,_,rfl,⟨trivial,false,rfl,⟨σ,Sub.rfl,q⟩⟩⟩
  · rename_i a
    have h':(match σ a with | some (.node n)=>some (SV.bool n.red) | _=>none) = some w:=h
    split at h'
    · rename_i n hn
      cases h'
      exact ⟨rfl,_,rfl,⟨trivial,true,rfl,⟨_,rfl,_,getF_node hn,⟨σ,Sub.rfl,q⟩⟩⟩⟩
    · cases h'
theorem gE_son {n:Nat} {σ:Hp} {a:Nat} {o:Option Nat} {z:Option Int} (hz:gL σ o = some z) (k:Int) (K:Fl→Lc→Hp→Prop) (q:K .next [some (.ref a),some (.int (mxo k z)),some (opt o)] σ) :
    wpSs (wpFn fnD n) (.cons (.ite (.is true (.var 2) .none) (.cons (.assign 1 (.max (.var 1) (.bin .add (.attr (.var 2) .limit) (.attr (.var 2) .offset)))) .nil) .nil) .nil) K [some (.ref a),some (.int k),some (opt o)] σ:=by
  cases o with
  | none=>cases hz; exact ⟨_,rfl,⟨trivial,⟨_,rfl,q⟩⟩⟩
  | some b =>
    obtain ⟨m,hm,rfl⟩:=gL_some hz
    exact ⟨_,rfl,trivial,_,rfl,_,rfl,_,rfl,_,getF_node hm,_,rfl,_,getF_node hm,_,rfl,_,rfl,_,rfl,_,rfl,_,rfl,q⟩
theorem greatestEnd_ok {n:Nat} {σ:Hp} {v w:SV} {Q:SV→Hp→Prop} (h:evCall σ .greatestEnd v = some w) (q:Q w σ):wpFn fnD (n + 1) .greatestEnd [v] Q σ:=by
  cases v <;> first | (cases h; done) | skip
  rename_i a
  have h':(match σ a with
      | some (.node n)=>(gL σ n.left).bind fun x=>(gL σ n.right).map fun y=>SV.int (mxo (mxo n.end_ x) y)
      | _=>none) = some w:=h
  split at h'
  · rename_i nd hn
    obtain ⟨x,hx,h'⟩:=Option.bind_eq_some_iff.mp h'
    obtain ⟨y,hy,rfl⟩:=Option.map_eq_some_iff.mp h'
    refine ⟨rfl,⟨_,rfl,⟨_,getF_node hn,⟨_,rfl,⟨_,getF_node hn,⟨_,rfl,⟨_,getF_node hn,?_⟩⟩⟩⟩⟩⟩⟩
    refine gE_son hx nd.end_ _ ⟨trivial,?_⟩
    exact gE_son hy _ _ ⟨trivial,⟨_,rfl,⟨σ,Sub.rfl,q⟩⟩⟩
  · cases h'
theorem evCall_ok {n:Nat} {σ:Hp} {f:Fid} {v w:SV} {Q:SV→Hp→Prop} (h:evCall σ f v = some w) (q:Q w σ):wpFn fnD (n + 1) f [v] Q σ:=by
  cases f <;> first | exact isRed_ok h q | exact greatestEnd_ok h q | exact noneSome h
noncomputable def EvOk (n:Nat) (σ:Hp) (ρ:Lc) (e:E):Prop:=∀ (v:SV) (Q:SV→Hp→Prop),ev σ ρ e = some v→Q v σ→wpE (wpFn fnD (n + 1)) e ρ Q σ
theorem ev1_ok {n:Nat} {σ:Hp} {ρ:Lc} {a:E} {f:SV→Option SV} {v:SV} {F:SV→Hp→Prop} (ia:EvOk n σ ρ a) (h:(ev σ ρ a).bind f = some v) (k:∀ x,f x = some v→F x σ):wpE (wpFn fnD (n + 1)) a ρ F σ:=by
  obtain ⟨x,h1,h2⟩:=Option.bind_eq_some_iff.mp h
  exact ia _ _ h1 (k x h2)
theorem ev2_ok {n:Nat} {σ:Hp} {ρ:Lc} {a b:E} {f:SV→SV→Option SV} {v:SV} {F:SV→SV→Hp→Prop} (ia:EvOk n σ ρ a) (ib:EvOk n σ ρ b) (h:((ev σ ρ a).bind fun x=>(ev σ ρ b).bind (f x)) = some v) (k:∀ x y,f x y = some v→F x y σ) :
    wpE (wpFn fnD (n + 1)) a ρ (fun x σ=>wpE (wpFn fnD (n + 1)) b ρ (F x) σ) σ:=ev1_ok ia h fun x h=>ev1_ok ib h (k x)
theorem is_ok {neg:Bool} {σ:Hp} {x y v:SV} {Q:SV→Hp→Prop} (h:(match x,y with
      | .none,.none=>some (.bool !neg)
      | .ref _,.none=>some (.bool neg)
      | .none,.ref _=>some (.bool neg)
      | .ref p,.ref q=>if (σ p).isSome && (σ q).isSome then some (.bool (neg != decide (p = q))) else none
      | _,_=>none) = some v) (q:Q v σ):isOk σ x y∧Q (.bool (neg != decide (x = y))) σ:=by
  cases x <;> cases y <;> first | exact noneSome h | skip
  · rw [← Option.some.inj h] at q; exact ⟨trivial,by cases neg <;> exact q⟩
  · rw [← Option.some.inj h] at q; exact ⟨trivial,by cases neg <;> exact q⟩
  · rw [← Option.some.inj h] at q; exact ⟨trivial,by cases neg <;> exact q⟩
  · rename_i p r
    have h':(if (σ p).isSome && (σ r).isSome then some (SV.bool (neg != decide (p = r))) else none) = some v:=h
    cases hs:((σ p).isSome && (σ r).isSome) with
    | false=>rw [hs] at h'; exact noneSome h'
    | true =>
      rw [hs,if_pos rfl] at h'
      rw [← Option.some.inj h'] at q
      rw [Bool.and_eq_true] at hs
      have e:decide (SV.ref p = SV.ref r) = decide (p = r):=decide_eq_decide.mpr ⟨fun e=>by cases e; rfl,fun e=>by rw [e]⟩
      exact ⟨.inr hs,by rw [e]; exact q⟩
theorem sel_ok {n:Nat} {σ:Hp} {ρ:Lc} {a b:E} {x v:SV} {Q:SV→Hp→Prop} (ia:EvOk n σ ρ a) (ib:EvOk n σ ρ b) (h:(x.asBool.bind fun t=>if t then ev σ ρ a else ev σ ρ b) = some v) (q:Q v σ) :
    on x.asBool fun t=>if t then wpE (wpFn fnD (n + 1)) a ρ Q σ else wpE (wpFn fnD (n + 1)) b ρ Q σ:=by
  obtain ⟨t,h2,h⟩:=Option.bind_eq_some_iff.mp h
  refine ⟨t,h2,?_⟩
  cases t with
  | true=>exact ia _ _ h q
  | false=>exact ib _ _ h q
theorem somE {v w:SV} {Q:SV→Hp→Prop} {σ:Hp} (h:some v = some w) (q:Q w σ):Q v σ:=by
  rw [Option.some.inj h]; exact q
theorem ev_all {n:Nat} {σ:Hp} {ρ:Lc}:∀ e:E,EvOk n σ ρ e
  | .none=>fun _ Q h q=>somE (Q:=Q) h q
  | .bool _=>fun _ Q h q=>somE (Q:=Q) h q
  | .int _=>fun _ Q h q=>somE (Q:=Q) h q
  | .negC _=>fun _ Q h q=>somE (Q:=Q) h q
  | .var i=>fun v _ h q=>⟨v,h,q⟩
  | .attr e f=>fun v _ h q=>ev1_ok (a:=e) (ev_all e) h fun _ h=>⟨v,h,q⟩
  | .bin op a b=>fun v _ h q=>ev2_ok (a:=a) (b:=b) (ev_all a) (ev_all b) h fun x y h=>by
    obtain ⟨i,h3,h⟩:=Option.bind_eq_some_iff.mp h
    obtain ⟨j,h4,h⟩:=Option.bind_eq_some_iff.mp h
    obtain ⟨k,h5,rfl⟩:=Option.map_eq_some_iff.mp h
    exact ⟨i,h3,j,h4,k,h5,q⟩
  | .cmp op a b=>fun v _ h q=>ev2_ok (a:=a) (b:=b) (ev_all a) (ev_all b) h fun x y h=>by
    obtain ⟨i,h3,h⟩:=Option.bind_eq_some_iff.mp h
    obtain ⟨j,h4,rfl⟩:=Option.map_eq_some_iff.mp h
    exact ⟨i,h3,j,h4,q⟩
  | .is neg a b=>fun v _ h q=>ev2_ok (a:=a) (b:=b) (ev_all a) (ev_all b) h fun x y h=>is_ok h q
  | .not a=>fun v _ h q=>ev1_ok (a:=a) (ev_all a) h fun x h=>by
    obtain ⟨i,h3,rfl⟩:=Option.map_eq_some_iff.mp h
    exact ⟨i,h3,q⟩
  | .and a b=>fun v Q h q=>ev1_ok (a:=a) (ev_all a) h fun x h=>by
    obtain ⟨t,h2,h⟩:=Option.bind_eq_some_iff.mp h
    refine ⟨t,h2,?_⟩
    cases t with
    | true=>exact ev_all b _ _ h q
    | false=>exact somE (Q:=Q) h q
  | .or a b=>fun v Q h q=>ev1_ok (a:=a) (ev_all a) h fun x h=>by
    obtain ⟨t,h2,h⟩:=Option.bind_eq_some_iff.mp h
    refine ⟨t,h2,?_⟩
    cases t with
    | true=>exact somE (Q:=Q) h q
    | false=>exact ev_all b _ _ h q
  | .ite c a b=>fun v Q h q=>ev1_ok (a:=c) (ev_all c) h fun x h=>sel_ok (ev_all a) (ev_all b) h q
  | .max a b=>fun v _ h q=>ev2_ok (a:=a) (b:=b) (ev_all a) (ev_all b) h fun x y h=>by
    obtain ⟨i,h3,h⟩:=Option.bind_eq_some_iff.mp h
    obtain ⟨j,h4,rfl⟩:=Option.map_eq_some_iff.mp h
    exact ⟨i,h3,j,h4,q⟩
  | .len a=>fun v Q h q=>ev1_ok (a:=a) (ev_all a) h fun x h=>by
    obtain ⟨vs,h2,h⟩:=Option.bind_eq_some_iff.mp h
    by_cases hz:vs.length < 2 ^ 20
    · rw [if_pos hz] at h; exact ⟨vs,h2,hz,somE (Q:=Q) h q⟩
    · rw [if_neg hz] at h; exact noneSome h
  | .idx a b=>fun v _ h q=>ev2_ok (a:=a) (b:=b) (ev_all a) (ev_all b) h fun x y h=>⟨v,h,q⟩
  | .tri a b c=>fun v _ h q=>ev1_ok (a:=a) (ev_all a) h fun x h=>ev1_ok (a:=b) (ev_all b) h fun y h=>ev1_ok (a:=c) (ev_all c) h fun z h=>by
    obtain ⟨i,h4,h⟩:=Option.bind_eq_some_iff.mp h
    obtain ⟨j,h5,h⟩:=Option.bind_eq_some_iff.mp h
    obtain ⟨k,h6,rfl⟩:=Option.map_eq_some_iff.mp h
    exact ⟨i,h4,j,h5,k,h6,q⟩
  | .call f (.cons a .nil)=>fun v _ h q=>ev1_ok (a:=a) (ev_all a) h fun x h=>evCall_ok h q
  | .call _ .nil=>fun _ _ h _=>noneSome h
  | .call _ (.cons _ (.cons _ _))=>fun _ _ h _=>noneSome h
  | .eqL ..=>fun _ _ h _=>noneSome h
  | .abs ..=>fun _ _ h _=>noneSome h
  | .sorted ..=>fun _ _ h _=>noneSome h
  | .sortedKeys ..=>fun _ _ h _=>noneSome h
  | .list ..=>fun _ _ h _=>noneSome h
  | .emptyDict=>fun _ _ h _=>noneSome h
  | .comp ..=>fun _ _ h _=>noneSome h
  | .compIf ..=>fun _ _ h _=>noneSome h
  | .append ..=>fun _ _ h _=>noneSome h
  | .pop ..=>fun _ _ h _=>noneSome h
  | .get ..=>fun _ _ h _=>noneSome h
  | .rev ..=>fun _ _ h _=>noneSome h
  | .upto ..=>fun _ _ h _=>noneSome h
  | .from_ ..=>fun _ _ h _=>noneSome h
  | .cat ..=>fun _ _ h _=>noneSome h
  | .newNode ..=>fun _ _ h _=>noneSome h
  | .given=>fun _ _ h _=>noneSome h
  | .newTree=>fun _ _ h _=>noneSome h
  | .bad=>fun _ _ h _=>noneSome h
theorem ev_ok {n:Nat} {σ:Hp} {ρ:Lc} {e:E} {v:SV} {Q:SV→Hp→Prop} (h:ev σ ρ e = some v) (q:Q v σ):wpE (wpFn fnD (n + 1)) e ρ Q σ:=ev_all e v Q h q
theorem evs_ok {n:Nat} {σ:Hp} {ρ:Lc}:∀ {e:Es} {v:List SV} {Q:List SV→Hp→Prop},evs σ ρ e = some v→Q v σ→wpEs (wpFn fnD (n + 1)) e ρ Q σ
  | .nil,_,_,h,q=>by cases h; exact q
  | .cons e r,v,_,h,q=>by
    obtain ⟨x,h1,h⟩:=Option.bind_eq_some_iff.mp h
    obtain ⟨vs,h2,rfl⟩:=Option.map_eq_some_iff.mp h
    exact ev_ok h1 (evs_ok h2 q)
noncomputable def app:Ss→Ss→Ss
  | .nil,r=>r
  | .cons s x,r=>.cons s (app x r)
noncomputable abbrev Kn (Γ:Cal) (r:Ss) (Q:Fl→Lc→Hp→Prop):Fl→Lc→Hp→Prop:=fun fl ρ σ=>match fl with | .next=>wpSs Γ r Q ρ σ | .ret v=>Q (.ret v) ρ σ
theorem wpSs_app {Γ:Cal} {r:Ss} {Q:Fl→Lc→Hp→Prop}:∀ {x:Ss} {ρ:Lc} {σ:Hp},wpSs Γ (app x r) Q ρ σ = wpSs Γ x (Kn Γ r Q) ρ σ
  | .nil,_,_=>rfl
  | .cons s x,ρ,σ=>by
    show wpS Γ s (Kn Γ (app x r) Q) ρ σ = wpS Γ s (Kn Γ x (Kn Γ r Q)) ρ σ
    have:Kn Γ (app x r) Q = Kn Γ x (Kn Γ r Q):=by
      funext fl ρ σ
      cases fl with
      | next=>exact wpSs_app
      | ret v=>rfl
    rw [this]
section
variable {n:Nat} {Q:Fl→Lc→Hp→Prop} {ρ:Lc} {σ:Hp} {r:Ss}
noncomputable abbrev W (n:Nat) (b:Ss) (Q:Fl→Lc→Hp→Prop) (ρ:Lc) (σ:Hp):Prop:=wpSs (wpFn fnD (n + 1)) b Q ρ σ
theorem R.assign {x:Nat} {e:E} {v:SV} (h:ev σ ρ e = some v) (k:W n r Q (ρ.set x (some v)) σ):W n (.cons (.assign x e) r) Q ρ σ:=ev_ok h k
theorem R.setattr {o v:E} {f:Fld} {a:Nat} {w:SV} {so so':SO} (hv:ev σ ρ v = some w) (ho:ev σ ρ o = some (.ref a)) (ha:σ a = some so) (hs:so.set f w = some so') (k:W n r Q ρ (upd σ a so')):W n (.cons (.setattr o f v) r) Q ρ σ :=
  ev_ok hv (ev_ok ho ⟨_,by unfold setF SV.asRef; rw [Option.bind_some,ha,Option.bind_some,hs]; rfl,k⟩)
theorem R.ite {c:E} {x y:Ss} {b:Bool} (h:ev σ ρ c = some (.bool b)) (k:W n (app (if b then x else y) r) Q ρ σ):W n (.cons (.ite c x y) r) Q ρ σ:=by
  refine ev_ok h ⟨b,rfl,?_⟩
  unfold W at k
  rw [wpSs_app] at k
  cases b <;> exact k
theorem R.call {f:Fid} {es:Es} {vs:List SV} (h:evs σ ρ es = some vs) (k:wpFn fnD (n + 1) f vs (fun _ σ=>W n r Q ρ σ) σ):W n (.cons (.expr (.call f es)) r) Q ρ σ:=evs_ok (n:=n) h k
theorem R.callA {x:Nat} {f:Fid} {es:Es} {vs:List SV} (h:evs σ ρ es = some vs) (k:wpFn fnD (n + 1) f vs (fun v σ=>W n r Q (ρ.set x (some v)) σ) σ):W n (.cons (.assign x (.call f es)) r) Q ρ σ:=evs_ok (n:=n) h k
theorem R.ret {e:E} {v:SV} (h:ev σ ρ e = some v) (k:Q (.ret v) ρ σ):W n (.cons (.ret e) r) Q ρ σ:=ev_ok h k
theorem R.while {α:Type} (μ:α→Nat) (Inv:α→Lc→Hp→Prop) {c:E} {b:Ss} (x:α) (h:Inv x ρ σ)
    (step:∀ x ρ σ,Inv x ρ σ→∃ t,ev σ ρ c = some (.bool t)∧(t = false→W n r Q ρ σ)∧(t = true→∀ I:Lc→Hp→Prop,(∀ y ρ' σ',μ y < μ x→Inv y ρ' σ'→I ρ' σ')→W n b (fun fl ρ σ=>match fl with | .next=>I ρ σ | .ret w=>Q (.ret w) ρ σ) ρ σ)) :
    W n (.cons (.while c b) r) Q ρ σ:=by
  intro I hI
  suffices key:∀ k x ρ σ,μ x < k→Inv x ρ σ→I ρ σ from key _ x ρ σ (Nat.lt_succ_self _) h
  intro k
  induction k with
  | zero=>intro x ρ σ hk; exact absurd hk (Nat.not_lt_zero _)
  | succ k ih =>
    intro x ρ σ hk hx
    obtain ⟨t,e,h0,h1⟩:=step x ρ σ hx
    refine hI ρ σ (ev_ok e ⟨t,rfl,?_⟩)
    cases t with
    | false=>exact h0 rfl
    | true=>exact h1 rfl I fun y ρ' σ' hy=>ih y ρ' σ' (by omega)
theorem ev_attr {e:E} {f:Fld} {a:Nat} {nd:Nd} (h:ev σ ρ e = some (.ref a)) (ha:σ a = some (.node nd)):ev σ ρ (.attr e f) = nd.get f:=by
  show (ev σ ρ e).bind _ = _
  rw [h]
  exact getF_node ha
end
end Mine
namespace Mine
structure Dt where
  number:Int
  begin_:Int
  end_:Int
  front:Bool
  rear:Bool
  limit:Int
  offset:Int
  red:Bool
structure En where
  i:Nat
  number:Int
  b:Int
  e:Int
  front:Bool
  rear:Bool
inductive T where
  | nil
  | nd (i:Nat) (d:Dt) (l r:T)
inductive C where
  | top
  | L (i:Nat) (d:Dt) (r:T) (c:C)
  | R (i:Nat) (d:Dt) (l:T) (c:C)
noncomputable def T.root:T→Option Nat
  | .nil=>none
  | .nd i _ _ _=>some i
noncomputable def C.pid:C→Option Nat
  | .top=>none
  | .L i _ _ _=>some i
  | .R i _ _ _=>some i
noncomputable def mkN (d:Dt) (l r p:Option Nat):Nd:={ number:=d.number,begin_:=d.begin_,end_:=d.end_,front:=d.front,rear:=d.rear,limit:=d.limit,offset:=d.offset,red:=d.red,left:=l,right:=r,parent:=p }
noncomputable abbrev nodeO (d:Dt) (l r p:Option Nat):SO:=.node (mkN d l r p)
noncomputable def TreeAt (σ:Hp):T→Option Nat→Prop
  | .nil,_=>True
  | .nd i d l r,p=>σ i = some (nodeO d l.root r.root p)∧TreeAt σ l (some i)∧TreeAt σ r (some i)
noncomputable def CtxAt (σ:Hp) (tr:Nat) (cnt:Int):C→Option Nat→Prop
  | .top,x=>σ tr = some (.tree ⟨x,cnt⟩)
  | .L i d r c,x=>σ i = some (nodeO d x r.root c.pid)∧TreeAt σ r (some i)∧CtxAt σ tr cnt c (some i)
  | .R i d l c,x=>σ i = some (nodeO d l.root x c.pid)∧TreeAt σ l (some i)∧CtxAt σ tr cnt c (some i)
noncomputable def Dt.en (i:Nat) (d:Dt) (o:Int):En:=⟨i,d.number,d.begin_ + o,d.end_ + o,d.front,d.rear⟩
noncomputable def T.vals:Int→T→List En
  | _,.nil=>[]
  | o,.nd i d l r=>l.vals (o + d.offset) ++ d.en i (o + d.offset) :: r.vals (o + d.offset)
noncomputable def C.off:C→Int
  | .top=>0
  | .L _ d _ c=>c.off + d.offset
  | .R _ d _ c=>c.off + d.offset
noncomputable def C.vpre:C→List En
  | .top=>[]
  | .L _ _ _ c=>c.vpre
  | .R i d l c=>c.vpre ++ (l.vals (c.off + d.offset) ++ [d.en i (c.off + d.offset)])
noncomputable def C.vpost:C→List En
  | .top=>[]
  | .L i d r c=>d.en i (c.off + d.offset) :: r.vals (c.off + d.offset) ++ c.vpost
  | .R _ _ _ c=>c.vpost
noncomputable def T.ids:T→List Nat
  | .nil=>[]
  | .nd i _ l r=>l.ids ++ i :: r.ids
noncomputable def C.pre:C→List Nat
  | .top=>[]
  | .L _ _ _ c=>c.pre
  | .R i _ l c=>c.pre ++ (l.ids ++ [i])
noncomputable def C.post:C→List Nat
  | .top=>[]
  | .L i _ r c=>i :: r.ids ++ c.post
  | .R _ _ _ c=>c.post
theorem T.ids_vals:∀ (t:T) (o:Int),(t.vals o).map (·.i) = t.ids
  | .nil,_=>rfl
  | .nd i d l r,o=>by rw [T.vals,List.map_append,List.map_cons,T.ids_vals l,T.ids_vals r]; rfl
theorem C.ids_pre:∀ c:C,c.vpre.map (·.i) = c.pre
  | .top=>rfl
  | .L _ _ _ c=>C.ids_pre c
  | .R i d l c=>by rw [C.vpre,List.map_append,List.map_append,C.ids_pre c,T.ids_vals]; rfl
theorem C.ids_post:∀ c:C,c.vpost.map (·.i) = c.post
  | .top=>rfl
  | .L i d r c=>by rw [C.vpost,List.map_append,List.map_cons,C.ids_post c,T.ids_vals]; rfl
  | .R _ _ _ c=>C.ids_post c
theorem TreeAt.frame {σ σ':Hp}:∀ {t:T} {p:Option Nat},TreeAt σ t p→(∀ i ∈ t.ids,σ' i = σ i)→TreeAt σ' t p
  | .nil,_,_,_=>trivial
  | .nd i d l r,p,⟨h,hl,hr⟩,k=>⟨(k i (List.mem_append_right _ (.head _))).trans h,hl.frame fun j hj=>k j (List.mem_append_left _ hj),hr.frame fun j hj=>k j (List.mem_append_right _ (.tail _ hj))⟩
theorem CtxAt.frame {σ σ':Hp} {tr:Nat} {cnt:Int}:∀ {c:C} {x:Option Nat},CtxAt σ tr cnt c x→(∀ i,i ∈ c.pre ∨ i ∈ c.post→σ' i = σ i)→σ' tr = σ tr→CtxAt σ' tr cnt c x
  | .top,_,h,_,e=>e.trans h
  | .L i d r c,x,⟨h,hr,hc⟩,k,e=>⟨(k i (.inr (List.mem_append_left _ (.head _)))).trans h,hr.frame fun j hj=>k j (.inr (List.mem_append_left _ (.tail _ hj))),
      hc.frame (fun j hj=>k j (hj.imp id fun hj=>List.mem_append_right _ hj)) e⟩
  | .R i d l c,x,⟨h,hr,hc⟩,k,e=>⟨(k i (.inl (List.mem_append_right _ (List.mem_append_right _ (.head _))))).trans h,hr.frame fun j hj=>k j (.inl (List.mem_append_right _ (List.mem_append_left _ hj))),
      hc.frame (fun j hj=>k j (hj.imp (fun hj=>List.mem_append_left _ hj) id)) e⟩
theorem nd_mid {X Y:List Nat} {i:Nat} (h:(X ++ i :: Y).Nodup):i ∉ X∧i ∉ Y∧X.Nodup∧Y.Nodup∧∀ j ∈ X,j ∉ Y:=by
  obtain ⟨a,b,c⟩:=List.nodup_append.mp h
  obtain ⟨d,e⟩:=List.nodup_cons.mp b
  exact ⟨fun q=>c i q i (.head _) rfl,d,a,e,fun j hj q=>c j hj j (.tail _ q) rfl⟩
structure Ap (tr:Nat) (P X:List Nat) (i:Nat) (Y Z:List Nat):Prop where
  iX:i ∉ X
  iY:i ∉ Y
  ti:tr ≠ i
  iO:∀ j,j ∈ P ∨ j ∈ Z→j ≠ i
  nX:X.Nodup
  nY:Y.Nodup
  XS:∀ j ∈ X,j ∉ Y∧tr ≠ j∧∀ k,k ∈ P ∨ k ∈ Z→k ≠ j
  YS:∀ j ∈ Y,j ∉ X∧tr ≠ j∧∀ k,k ∈ P ∨ k ∈ Z→k ≠ j
  cn:(tr :: (P ++ Z)).Nodup
theorem Ap.of {tr i:Nat} {P X Y Z:List Nat} (h:(tr :: (P ++ ((X ++ i :: Y) ++ Z))).Nodup):Ap tr P X i Y Z:=by
  obtain ⟨t,n⟩:=List.nodup_cons.mp h
  obtain ⟨nP,n,dP⟩:=List.nodup_append.mp n
  obtain ⟨nI,nZ,dZ⟩:=List.nodup_append.mp n
  obtain ⟨iX,iY,nX,nY,xy⟩:=nd_mid nI
  have key:∀ j ∈ X ++ i :: Y,tr ≠ j∧∀ k,k ∈ P ∨ k ∈ Z→k ≠ j:=fun j hj=>⟨fun q=>t (q ▸ List.mem_append_right _ (List.mem_append_left _ hj)),fun k hk q=>hk.elim (fun hk=>dP k hk j (List.mem_append_left _ hj) q) fun hk=>dZ j hj k hk q.symm⟩
  have ki:=key i (List.mem_append_right _ (.head _))
  exact ⟨iX,iY,ki.1,ki.2,nX,nY,fun j hj=>⟨xy j hj,key j (List.mem_append_left _ hj)⟩,fun j hj=>⟨fun q=>xy j q hj,key j (List.mem_append_right _ (.tail _ hj))⟩,
    List.nodup_cons.mpr ⟨fun q=>t ((List.mem_append.mp q).elim (fun q=>List.mem_append_left _ q) fun q=>List.mem_append_right _ (List.mem_append_right _ q)),List.nodup_append.mpr ⟨nP,nZ,fun a ha b hb=>dP a ha b (List.mem_append_right _ hb)⟩⟩⟩
theorem Ap.sym {tr i:Nat} {P X Y Z:List Nat} (h:Ap tr P X i Y Z):Ap tr P Y i X Z:=⟨h.iY,h.iX,h.ti,h.iO,h.nY,h.nX,h.YS,h.XS,h.cn⟩
theorem Ap.perm {tr i:Nat} {P X Y Y' Z:List Nat} (h:Ap tr P X i Y Z) (p:Y.Perm Y'):Ap tr P X i Y' Z :=
  ⟨h.iX,fun q=>h.iY (p.mem_iff.mpr q),h.ti,h.iO,h.nX,p.nodup_iff.mp h.nY,fun j hj=>⟨fun q=>(h.XS j hj).1 (p.mem_iff.mpr q),(h.XS j hj).2⟩,fun j hj=>h.YS j (p.mem_iff.mpr hj),h.cn⟩
structure St (σ:Hp) (tr:Nat) (cnt:Int) (V:List En) (c:C) (t:T):Prop where
  ctx:CtxAt σ tr cnt c t.root
  tree:TreeAt σ t c.pid
  nd:(tr :: V.map (·.i)).Nodup
  vals:c.vpre ++ (t.vals c.off ++ c.vpost) = V
section
variable {σ σ':Hp} {tr:Nat} {cnt:Int} {V:List En} {c:C} {t l r:T} {i:Nat} {d:Dt}
theorem St.ids (h:St σ tr cnt V c t):V.map (·.i) = c.pre ++ (t.ids ++ c.post):=by
  rw [← h.vals,List.map_append,List.map_append,C.ids_pre,T.ids_vals,C.ids_post]
theorem St.nd' (h:St σ tr cnt V c t):(tr :: (c.pre ++ (t.ids ++ c.post))).Nodup:=h.ids ▸ h.nd
theorem St.downL (h:St σ tr cnt V c (.nd i d l r)):St σ tr cnt V (.L i d r c) l :=
  ⟨⟨h.tree.1,h.tree.2.2,h.ctx⟩,h.tree.2.1,h.nd,by rw [← h.vals]; simp only [C.vpre,C.vpost,C.off,T.vals,List.append_assoc]⟩
theorem St.downR (h:St σ tr cnt V c (.nd i d l r)):St σ tr cnt V (.R i d l c) r :=
  ⟨⟨h.tree.1,h.tree.2.1,h.ctx⟩,h.tree.2.2,h.nd,by rw [← h.vals]; simp only [C.vpre,C.vpost,C.off,T.vals,List.append_assoc]; rfl⟩
theorem St.upL (h:St σ tr cnt V (.L i d r c) l):St σ tr cnt V c (.nd i d l r) :=
  ⟨h.ctx.2.2,⟨h.ctx.1,h.tree,h.ctx.2.1⟩,h.nd,by rw [← h.vals]; simp only [C.vpre,C.vpost,C.off,T.vals,List.append_assoc]⟩
theorem St.upR (h:St σ tr cnt V (.R i d l c) r):St σ tr cnt V c (.nd i d l r) :=
  ⟨h.ctx.2.2,⟨h.ctx.1,h.ctx.2.1,h.tree⟩,h.nd,by rw [← h.vals]; simp only [C.vpre,C.vpost,C.off,T.vals,List.append_assoc]; rfl⟩
theorem St.node (h:St σ tr cnt V c (.nd i d l r)):σ i = some (nodeO d l.root r.root c.pid):=h.tree.1
noncomputable def Keep (S:List Nat) (σ σ':Hp):Prop:=∀ z o,z ∉ S→σ z = some o→σ' z = some o
theorem Keep.refl {S:List Nat}:Keep S σ σ:=fun _ _ _ h=>h
theorem Keep.trans {S:List Nat} {σ'':Hp} (h:Keep S σ σ') (h':Keep S σ' σ''):Keep S σ σ'':=fun z o hz e=>h' z o hz (h z o hz e)
theorem Keep.mono {S S':List Nat} (h:Keep S σ σ') (hs:∀ z ∈ S,z ∈ S'):Keep S' σ σ':=fun z o hz e=>h z o (fun q=>hz (hs z q)) e
theorem Keep.put {S:List Nat} {a:Nat} {o:SO} (h:a ∈ S):Keep S σ (upd σ a o):=fun z x hz e=>(upd_ne _ _ (fun q=>hz (by rw [q]; exact h))).trans e
theorem Keep.new {S:List Nat} {a:Nat} {o:SO} (h:σ a = none):Keep S σ (upd σ a o):=fun z x _ e=>(upd_ne _ _ (fun q=>by rw [q,h] at e; cases e)).trans e
noncomputable abbrev KV (tr:Nat) (V:List En):Hp→Hp→Prop:=Keep (tr :: V.map (·.i))
theorem St.mem (h:St σ tr cnt V c (.nd i d l r)):i ∈ tr :: V.map (·.i):=by
  rw [h.ids]
  exact .tail _ (List.mem_append_right _ (List.mem_append_left _ (List.mem_append_right _ (.head _))))
theorem St.ap (h:St σ tr cnt V c (.nd i d l r)):Ap tr c.pre l.ids i r.ids c.post:=.of h.nd'
theorem St.apart (h:St σ tr cnt V c (.nd i d l r)):i ∉ l.ids∧i ∉ r.ids∧tr ≠ i∧(∀ j,j ∈ c.pre ∨ j ∈ c.post→j ≠ i):=by
  exact ⟨h.ap.iX,h.ap.iY,h.ap.ti,h.ap.iO⟩
theorem St.set {d':Dt} (h:St σ tr cnt V c (.nd i d l r)) (hv:∀ o,d'.en i o = d.en i o) (ho:d'.offset = d.offset):St (upd σ i (nodeO d' l.root r.root c.pid)) tr cnt V c (.nd i d' l r)∧KV tr V σ (upd σ i (nodeO d' l.root r.root c.pid)):=by
  obtain ⟨a1,a2,a3,a4⟩:=h.apart
  refine ⟨⟨h.ctx.frame (fun j hj=>upd_ne _ _ (a4 j hj)) (upd_ne _ _ a3),⟨upd_same ..,h.tree.2.1.frame fun j hj=>upd_ne _ _ (fun q=>a1 (q ▸ hj)),h.tree.2.2.frame fun j hj=>upd_ne _ _ (fun q=>a2 (q ▸ hj))⟩,h.nd,?_⟩,Keep.put h.mem⟩
  rw [← h.vals]
  simp only [T.vals,ho,hv]
end
section
variable {n:Nat} {Q:Fl→Lc→Hp→Prop} {ρ:Lc} {r:Ss} {σ:Hp} {tr:Nat} {cnt:Int} {V:List En} {c:C} {tl tr':T} {i:Nat} {d:Dt}
theorem R.set {d':Dt} {o v:E} {f:Fld} {w:SV} (S:St σ tr cnt V c (.nd i d tl tr')) (hv:ev σ ρ v = some w) (ho:ev σ ρ o = some (.ref i)) (hs:(mkN d tl.root tr'.root c.pid).set f w = some (mkN d' tl.root tr'.root c.pid)) (he:∀ o,d'.en i o = d.en i o) (hoff:d'.offset = d.offset)
    (k:∀ σ',St σ' tr cnt V c (.nd i d' tl tr')→KV tr V σ σ'→W n r Q ρ σ'):W n (.cons (.setattr o f v) r) Q ρ σ :=
  R.setattr hv ho S.node (by show (Nd.set _ _ _).map SO.node = some _; rw [hs]; rfl) (k _ (S.set he hoff).1 (S.set he hoff).2)
end
end Mine
namespace Mine
noncomputable def T.lim:T→Option Int
  | .nil=>none
  | .nd _ d _ _=>some (d.limit + d.offset)
noncomputable def gEnd (d:Dt) (l r:T):Int:=mxo (mxo d.end_ l.lim) r.lim
section
variable {n:Nat} {Q:Fl→Lc→Hp→Prop} {ρ:Lc} {r:Ss} {σ:Hp}
theorem R.iteT {c:E} {x y:Ss} {b:Bool} (h:ev σ ρ c = some (.bool b)) (hb:b = true) (k:W n (app x r) Q ρ σ):W n (.cons (.ite c x y) r) Q ρ σ:=R.ite h (by rw [hb]; exact k)
theorem R.iteF {c:E} {x y:Ss} {b:Bool} (h:ev σ ρ c = some (.bool b)) (hb:b = false) (k:W n (app y r) Q ρ σ):W n (.cons (.ite c x y) r) Q ρ σ:=R.ite h (by rw [hb]; exact k)
theorem ev_cmp {op:COp} {a b:E} {i j:Int} (h1:ev σ ρ a = some (.int i)) (h2:ev σ ρ b = some (.int j)):ev σ ρ (.cmp op a b) = some (.bool (cmpI op i j)):=by
  show (ev σ ρ a).bind _ = _
  rw [h1]
  show (ev σ ρ b).bind _ = _
  rw [h2]
  rfl
theorem ev_add {a b:E} {i j:Int} (h1:ev σ ρ a = some (.int i)) (h2:ev σ ρ b = some (.int j)):ev σ ρ (.bin .add a b) = some (.int (i + j)):=by
  show (ev σ ρ a).bind _ = _
  rw [h1]
  show (ev σ ρ b).bind _ = _
  rw [h2]
  rfl
theorem ev_sub {a b:E} {i j:Int} (h1:ev σ ρ a = some (.int i)) (h2:ev σ ρ b = some (.int j)):ev σ ρ (.bin .sub a b) = some (.int (i - j)):=by
  show (ev σ ρ a).bind _ = _
  rw [h1]
  show (ev σ ρ b).bind _ = _
  rw [h2]
  rfl
theorem ev_max {a b:E} {i j:Int} (h1:ev σ ρ a = some (.int i)) (h2:ev σ ρ b = some (.int j)):ev σ ρ (.max a b) = some (.int (if j > i then j else i)):=by
  show (ev σ ρ a).bind _ = _
  rw [h1]
  show (ev σ ρ b).bind _ = _
  rw [h2]
  rfl
theorem ev_isNone {neg:Bool} {a:E} {o:Option Nat} (h:ev σ ρ a = some (opt o)):ev σ ρ (.is neg a .none) = some (.bool (neg != o.isNone)):=by
  show (ev σ ρ a).bind _ = _
  rw [h]
  cases o <;> cases neg <;> rfl
theorem ev_isRef {neg:Bool} {a b:E} {p q:Nat} (h1:ev σ ρ a = some (.ref p)) (h2:ev σ ρ b = some (.ref q)) (a1:(σ p).isSome = true) (a2:(σ q).isSome = true):ev σ ρ (.is neg a b) = some (.bool (neg != decide (p = q))):=by
  show (ev σ ρ a).bind _ = _
  rw [h1]
  show (ev σ ρ b).bind _ = _
  rw [h2]
  show (if _ then _ else _) = _
  rw [a1,a2]
  rfl
theorem ev_isNR {neg:Bool} {a b:E} {q:Nat} (h1:ev σ ρ a = some .none) (h2:ev σ ρ b = some (.ref q)):ev σ ρ (.is neg a b) = some (.bool neg):=by
  show (ev σ ρ a).bind _ = _
  rw [h1]
  show (ev σ ρ b).bind _ = _
  rw [h2]
  rfl
theorem ev_ite {c a b:E} {t:Bool} {v:SV} (h:ev σ ρ c = some (.bool t)) (k:ev σ ρ (if t then a else b) = some v):ev σ ρ (.ite c a b) = some v:=by
  show (ev σ ρ c).bind _ = _
  rw [h]
  cases t <;> exact k
theorem ev_and {a b:E} {t:Bool} {v:SV} (h:ev σ ρ a = some (.bool t)) (k:(if t then ev σ ρ b else some (.bool false)) = some v):ev σ ρ (.and a b) = some v:=by
  show (ev σ ρ a).bind _ = _
  rw [h]
  cases t <;> exact k
theorem ev_or {a b:E} {t:Bool} {v:SV} (h:ev σ ρ a = some (.bool t)) (k:(if t then some (.bool true) else ev σ ρ b) = some v):ev σ ρ (.or a b) = some v:=by
  show (ev σ ρ a).bind _ = _
  rw [h]
  cases t <;> exact k
theorem ev_not {a:E} {t:Bool} (h:ev σ ρ a = some (.bool t)):ev σ ρ (.not a) = some (.bool !t):=by
  show (ev σ ρ a).bind _ = _
  rw [h]
  rfl
theorem ev_red {e:E} {a:Nat} {nd:Nd} (h:ev σ ρ e = some (.ref a)) (ha:σ a = some (.node nd)):ev σ ρ (.call .isRed (.cons e .nil)) = some (.bool nd.red):=by
  show (ev σ ρ e).bind _ = _
  rw [h]
  show (match σ a with | some (.node n)=>some (SV.bool n.red) | _=>none) = _
  rw [ha]
noncomputable def T.isRed:T→Bool
  | .nil=>false
  | .nd _ d _ _=>d.red
theorem ev_redT {e:E} {t:T} {p:Option Nat} (h:ev σ ρ e = some (opt t.root)) (ht:TreeAt σ t p):ev σ ρ (.call .isRed (.cons e .nil)) = some (.bool t.isRed):=by
  cases t with
  | nil =>
    show (ev σ ρ e).bind _ = _
    rw [h]
    rfl
  | nd i d l r=>exact ev_red h ht.1
theorem gL_tree {t:T} {p:Option Nat} (h:TreeAt σ t p):gL σ t.root = some t.lim:=by
  cases t with
  | nil=>rfl
  | nd i d l r =>
    show (match σ i with | some (.node n)=>some (some (n.limit + n.offset)) | _=>none) = _
    rw [h.1]
    rfl
theorem ev_gE {e:E} {a:Nat} {d:Dt} {l rt:T} {p pl pr:Option Nat} (h:ev σ ρ e = some (.ref a)) (ha:σ a = some (nodeO d l.root rt.root p)) (hl:TreeAt σ l pl) (hr:TreeAt σ rt pr):ev σ ρ (.call .greatestEnd (.cons e .nil)) = some (.int (gEnd d l rt)):=by
  show (ev σ ρ e).bind _ = _
  rw [h]
  show (match σ a with
      | some (.node n)=>(gL σ n.left).bind fun x=>(gL σ n.right).map fun y=>SV.int (mxo (mxo n.end_ x) y)
      | _=>none) = _
  rw [ha]
  show (gL σ l.root).bind _ = _
  rw [gL_tree hl]
  show (gL σ rt.root).map _ = _
  rw [gL_tree hr]
  rfl
end
noncomputable abbrev Fq (Q:SV→Hp→Prop):Fl→Lc→Hp→Prop:=fun fl _ σ'=>∃ σ'',Sub σ'' σ'∧Q fl.val σ''
theorem Fq.now {Q:SV→Hp→Prop} {fl:Fl} {σ:Hp} (h:Q fl.val σ):∃ σ'',Sub σ'' σ∧Q fl.val σ'':=⟨σ,Sub.rfl,h⟩
theorem handDown_zero {n:Nat} {Q:SV→Hp→Prop} {σ:Hp} {i:Nat} {nd:Nd} (h:σ i = some (.node nd)) (h0:nd.offset = 0) (k:Q .none σ):wpFn fnD (n + 2) .handDown [.ref i] Q σ :=
  ⟨rfl,R.iteT (n:=n) (ev_cmp (ev_attr (e:=.var 0) rfl h) rfl) (by rw [h0]; rfl) (Fq.now (fl:=.ret .none) k)⟩
noncomputable def C.key (tr:Nat):C→Nat
  | .top=>tr
  | .L i _ _ _=>i
  | .R i _ _ _=>i
noncomputable def C.obj (cnt:Int) (o:Option Nat):C→SO
  | .top=>.tree ⟨o,cnt⟩
  | .L _ d r c=>nodeO d o r.root c.pid
  | .R _ d l c=>nodeO d l.root o c.pid
section
variable {n:Nat} {σ:Hp} {tr:Nat} {cnt:Int} {c:C} {x:Nat} {o:Option Nat}
theorem C.key_mem (tr:Nat) (c:C):c.key tr = tr ∨ c.key tr ∈ c.pre ∨ c.key tr ∈ c.post:=by
  cases c with
  | top=>exact .inl rfl
  | L i d r c=>exact .inr (.inr (List.mem_append_left _ (.head _)))
  | R i d l c=>exact .inr (.inl (List.mem_append_right _ (List.mem_append_right _ (.head _))))
theorem CtxAt.rechild {y:Option Nat} (h:CtxAt σ tr cnt c y) (nd:(tr :: (c.pre ++ c.post)).Nodup):CtxAt (upd σ (c.key tr) (c.obj cnt o)) tr cnt c o:=by
  cases c with
  | top=>exact upd_same ..
  | L i d r c =>
    have ap:Ap tr c.pre [] i r.ids c.post:=.of nd
    have a:i ∉ r.ids∧tr ≠ i∧∀ j,j ∈ c.pre ∨ j ∈ c.post→j ≠ i:=⟨ap.iY,ap.ti,ap.iO⟩
    exact ⟨upd_same ..,h.2.1.frame fun j hj=>upd_ne _ _ (fun q=>a.1 ((show j = i from q) ▸ hj)),h.2.2.frame (fun j hj=>upd_ne _ _ (a.2.2 j hj)) (upd_ne _ _ a.2.1)⟩
  | R i d l c =>
    have ap:Ap tr c.pre l.ids i [] c.post:=.of (by rw [← List.append_assoc]; exact nd)
    have a:i ∉ l.ids∧tr ≠ i∧∀ j,j ∈ c.pre ∨ j ∈ c.post→j ≠ i:=⟨ap.iX,ap.ti,ap.iO⟩
    exact ⟨upd_same ..,h.2.1.frame fun j hj=>upd_ne _ _ (fun q=>a.1 ((show j = i from q) ▸ hj)),h.2.2.frame (fun j hj=>upd_ne _ _ (a.2.2 j hj)) (upd_ne _ _ a.2.1)⟩
theorem hang_first {Q:Fl→Lc→Hp→Prop} {r:Ss} (h:CtxAt σ tr cnt c (some x)) (hx:x ∉ c.pre) (ha:(σ x).isSome = true) (k:W n r Q [some (.ref tr),some (opt c.pid),some (.ref x),some (opt o)] (upd σ (c.key tr) (c.obj cnt o))) :
    W n (.cons (.ite (.is false (.var 1) .none) (.cons (.setattr (.var 0) .root (.var 3)) .nil) (.cons (.ite (.is false (.attr (.var 1) .left) (.var 2)) (.cons (.setattr (.var 1) .left (.var 3)) .nil) (.cons (.setattr (.var 1) .right (.var 3)) .nil)) .nil)) r) Q
      [some (.ref tr),some (opt c.pid),some (.ref x),some (opt o)] σ:=by
  cases c with
  | top=>exact R.iteT (ev_isNone (o:=none) rfl) rfl (R.setattr (a:=tr) (w:=opt o) rfl rfl h (by show (Tr.set _ _ _).map _ = _; unfold Tr.set; rw [unopt_opt]; rfl) k)
  | L i d t c=>exact R.iteF (ev_isNone (o:=some i) rfl) rfl (R.iteT (ev_isRef (p:=x) (ev_attr (e:=.var 1) rfl h.1) rfl ha ha) (by simp) (R.setattr (a:=i) (w:=opt o) rfl rfl h.1 (by show (Nd.set _ _ _).map _ = _; unfold Nd.set; rw [unopt_opt]; rfl) k))
  | R i d t c =>
    refine R.iteF (ev_isNone (o:=some i) rfl) rfl ?_
    have fin:W n r Q [some (.ref tr),some (.ref i),some (.ref x),some (opt o)] (upd σ i (nodeO d t.root o c.pid))→W n (.cons (.setattr (.var 1) .right (.var 3)) r) Q [some (.ref tr),some (.ref i),some (.ref x),some (opt o)] σ:=fun k =>
      R.setattr (a:=i) (w:=opt o) rfl rfl h.1 (by show (Nd.set _ _ _).map _ = _; unfold Nd.set; rw [unopt_opt]; rfl) k
    cases t with
    | nil=>exact R.iteF (ev_isNR (ev_attr (e:=.var 1) rfl h.1) rfl) rfl (fin k)
    | nd j e tl tr' =>
      refine R.iteF (ev_isRef (p:=j) (ev_attr (e:=.var 1) rfl h.1) rfl (by rw [h.2.1.1]; rfl) ha) ?_ (fin k)
      have:j ≠ x:=fun q=>hx (by rw [← q]; simp [C.pre,T.ids])
      simp [this]
theorem hang_none {Q:SV→Hp→Prop} (h:CtxAt σ tr cnt c (some x)) (hx:x ∉ c.pre) (ha:(σ x).isSome = true) (k:Q .none (upd σ (c.key tr) (c.obj cnt none))):wpFn fnD (n + 2) .hang [.ref tr,opt c.pid,.ref x,.none] Q σ :=
  ⟨rfl,hang_first (n:=n) (o:=none) h hx ha (R.iteF (ev_isNone (o:=none) rfl) rfl (Fq.now (fl:=.next) k))⟩
theorem hang_some {Q:SV→Hp→Prop} {y:Nat} {d:Dt} {a b p:Option Nat} (h:CtxAt σ tr cnt c (some x)) (hx:x ∉ c.pre) (ha:(σ x).isSome = true) (hy:σ y = some (nodeO d a b p)) (hk:y ≠ c.key tr)
    (k:Q .none (upd (upd σ (c.key tr) (c.obj cnt (some y))) y (nodeO d a b c.pid))):wpFn fnD (n + 2) .hang [.ref tr,opt c.pid,.ref x,.ref y] Q σ :=
  ⟨rfl,hang_first (n:=n) (o:=some y) h hx ha (R.iteT (ev_isNone (o:=some y) rfl) rfl (R.setattr (a:=y) (w:=opt c.pid) rfl rfl ((upd_ne _ _ hk).trans hy) (by show (Nd.set _ _ _).map _ = _; unfold Nd.set; rw [unopt_opt]; rfl) (Fq.now (fl:=.next) k)))⟩
end
end Mine
namespace Mine
noncomputable abbrev T.L (i:Nat) (d:Dt) (x y:T):T:=.nd i d x y
noncomputable abbrev T.R (i:Nat) (d:Dt) (x y:T):T:=.nd i d y x
noncomputable abbrev nodeL (d:Dt) (x y p:Option Nat):SO:=nodeO d x y p
noncomputable abbrev nodeR (d:Dt) (x y p:Option Nat):SO:=nodeO d y x p
noncomputable abbrev gEL (d:Dt) (x y:T):Int:=gEnd d x y
noncomputable abbrev gER (d:Dt) (x y:T):Int:=gEnd d y x
structure Dj (tr:Nat) (c:C) (A B D:T) (a b:Nat):Prop where
  ab:a ≠ b
  aS:a ∉ A.ids∧a ∉ B.ids∧a ∉ D.ids∧tr ≠ a∧∀ j,j ∈ c.pre ∨ j ∈ c.post→j ≠ a
  bS:b ∉ A.ids∧b ∉ B.ids∧b ∉ D.ids∧tr ≠ b∧∀ j,j ∈ c.pre ∨ j ∈ c.post→j ≠ b
  BS:∀ k ∈ B.ids,k ∉ A.ids∧k ∉ D.ids∧tr ≠ k∧∀ j,j ∈ c.pre ∨ j ∈ c.post→j ≠ k
  cS:∀ k,(k = tr ∨ k ∈ c.pre ∨ k ∈ c.post)→k ∉ A.ids∧k ∉ B.ids∧k ∉ D.ids
  Bn:B.ids.Nodup
  cn:(tr :: (c.pre ++ c.post)).Nodup
structure Rot (σ:Hp) (tr:Nat) (cnt:Int) (c:C) (A B D:T) (a b:Nat) (ra rb:SO) (x pB:Option Nat):Prop where
  ha:σ a = some ra
  hb:σ b = some rb
  hA:TreeAt σ A (some a)
  hB:TreeAt σ B pB
  hD:TreeAt σ D (some b)
  hc:CtxAt σ tr cnt c x
section
variable {σ:Hp} {tr:Nat} {cnt:Int} {V:List En} {c:C} {A B D:T} {a b:Nat} {ra rb ra' rb':SO} {x pB:Option Nat} {da db:Dt}
theorem Rot.setA (h:Rot σ tr cnt c A B D a b ra rb x pB) (j:Dj tr c A B D a b):Rot (upd σ a ra') tr cnt c A B D a b ra' rb x pB :=
  ⟨upd_same ..,(upd_ne _ _ (Ne.symm j.ab)).trans h.hb,h.hA.frame fun k hk=>upd_ne _ _ (fun q=>j.aS.1 (q ▸ hk)),h.hB.frame fun k hk=>upd_ne _ _ (fun q=>j.aS.2.1 (q ▸ hk)),h.hD.frame fun k hk=>upd_ne _ _ (fun q=>j.aS.2.2.1 (q ▸ hk)),
    h.hc.frame (fun k hk=>upd_ne _ _ (j.aS.2.2.2.2 k hk)) (upd_ne _ _ j.aS.2.2.2.1)⟩
theorem Rot.setB (h:Rot σ tr cnt c A B D a b ra rb x pB) (j:Dj tr c A B D a b):Rot (upd σ b rb') tr cnt c A B D a b ra rb' x pB :=
  ⟨(upd_ne _ _ j.ab).trans h.ha,upd_same ..,h.hA.frame fun k hk=>upd_ne _ _ (fun q=>j.bS.1 (q ▸ hk)),h.hB.frame fun k hk=>upd_ne _ _ (fun q=>j.bS.2.1 (q ▸ hk)),h.hD.frame fun k hk=>upd_ne _ _ (fun q=>j.bS.2.2.1 (q ▸ hk)),
    h.hc.frame (fun k hk=>upd_ne _ _ (j.bS.2.2.2.2 k hk)) (upd_ne _ _ j.bS.2.2.2.1)⟩
theorem TreeAt.reparent {i:Nat} {d:Dt} {l r:T} {p p':Option Nat} (h:TreeAt σ (.nd i d l r) p) (nd:(T.nd i d l r).ids.Nodup):TreeAt (upd σ i (nodeO d l.root r.root p')) (.nd i d l r) p':=by
  have a:i ∉ l.ids∧i ∉ r.ids:=⟨(nd_mid nd).1,(nd_mid nd).2.1⟩
  exact ⟨upd_same ..,h.2.1.frame fun j hj=>upd_ne _ _ (fun q=>a.1 (q ▸ hj)),h.2.2.frame fun j hj=>upd_ne _ _ (fun q=>a.2 (q ▸ hj))⟩
theorem Rot.par {i:Nat} {d:Dt} {l r:T} {p':Option Nat} (h:Rot σ tr cnt c A (.nd i d l r) D a b ra rb x pB) (j:Dj tr c A (.nd i d l r) D a b):Rot (upd σ i (nodeO d l.root r.root p')) tr cnt c A (.nd i d l r) D a b ra rb x p':=by
  have hi:i ∈ (T.nd i d l r).ids:=List.mem_append_right _ (.head _)
  obtain ⟨b1,b2,b3,b4⟩:=j.BS i hi
  exact ⟨(upd_ne _ _ (fun q:a = i=>j.aS.2.1 (q ▸ hi))).trans h.ha,(upd_ne _ _ (fun q:b = i=>j.bS.2.1 (q ▸ hi))).trans h.hb,h.hA.frame fun k hk=>upd_ne _ _ (fun q=>b1 (q ▸ hk)),h.hB.reparent j.Bn,h.hD.frame fun k hk=>upd_ne _ _ (fun q=>b2 (q ▸ hk)),
    h.hc.frame (fun k hk=>upd_ne _ _ (b4 k hk)) (upd_ne _ _ b3)⟩
theorem Rot.rechild {o:Option Nat} (h:Rot σ tr cnt c A B D a b ra rb x pB) (j:Dj tr c A B D a b):Rot (upd σ (c.key tr) (c.obj cnt o)) tr cnt c A B D a b ra rb o pB:=by
  have k:=c.key_mem tr
  obtain ⟨c1,c2,c3⟩:=j.cS _ k
  have ka:a ≠ c.key tr:=fun q=>by rcases k with k | k; exact j.aS.2.2.2.1 (k ▸ q.symm); exact j.aS.2.2.2.2 _ k q.symm
  have kb:b ≠ c.key tr:=fun q=>by rcases k with k | k; exact j.bS.2.2.2.1 (k ▸ q.symm); exact j.bS.2.2.2.2 _ k q.symm
  exact ⟨(upd_ne _ _ ka).trans h.ha,(upd_ne _ _ kb).trans h.hb,h.hA.frame fun k hk=>upd_ne _ _ (fun q=>c1 (q ▸ hk)),h.hB.frame fun k hk=>upd_ne _ _ (fun q=>c2 (q ▸ hk)),h.hD.frame fun k hk=>upd_ne _ _ (fun q=>c3 (q ▸ hk)),h.hc.rechild j.cn⟩
end
theorem Dj.of {tr:Nat} {c:C} {A B D:T} {a b:Nat} (h:Ap tr c.pre A.ids a (B.ids ++ b :: D.ids) c.post):Dj tr c A B D a b:=by
  obtain ⟨b1,b2,b3,_,b5⟩:=nd_mid h.nY
  have mb:b ∈ B.ids ++ b :: D.ids:=List.mem_append_right _ (.head _)
  have mB:∀ k ∈ B.ids,k ∈ B.ids ++ b :: D.ids:=fun k hk=>List.mem_append_left _ hk
  have mD:∀ k ∈ D.ids,k ∈ B.ids ++ b :: D.ids:=fun k hk=>List.mem_append_right _ (.tail _ hk)
  have out:∀ k,(k = tr ∨ k ∈ c.pre ∨ k ∈ c.post)→k ∉ A.ids∧k ∉ B.ids ++ b :: D.ids:=fun k hk =>
    ⟨fun q=>hk.elim (fun e=>(h.XS k q).2.1 e.symm) fun e=>(h.XS k q).2.2 k e rfl,fun q=>hk.elim (fun e=>(h.YS k q).2.1 e.symm) fun e=>(h.YS k q).2.2 k e rfl⟩
  exact ⟨fun q=>h.iY (q ▸ mb),⟨h.iX,fun q=>h.iY (mB _ q),fun q=>h.iY (mD _ q),h.ti,h.iO⟩,⟨(h.YS b mb).1,b1,b2,(h.YS b mb).2⟩,fun k hk=>⟨(h.YS k (mB k hk)).1,b5 k hk,(h.YS k (mB k hk)).2⟩,
    fun k hk=>⟨(out k hk).1,fun q=>(out k hk).2 (mB k q),fun q=>(out k hk).2 (mD k q)⟩,b3,h.cn⟩
theorem St.djL {σ:Hp} {tr:Nat} {cnt:Int} {V:List En} {c:C} {A B D:T} {a b:Nat} {da db:Dt} (h:St σ tr cnt V c (.L a da A (.L b db B D))):Dj tr c A B D a b:=by
  first | exact .of h.ap | exact .of (h.ap.sym.perm ((List.perm_middle.trans (List.perm_append_comm.cons b)).trans List.perm_middle.symm))
theorem turnLeft_ok {n:Nat} {Q:SV→Hp→Prop} {σ:Hp} {tr:Nat} {cnt:Int} {V:List En} {c:C} {A B D:T} {a b:Nat} {da db:Dt} (S:St σ tr cnt V c (.L a da A (.L b db B D))) (h0:da.offset = 0) (h1:db.offset = 0)
    (k:∀ σ',St σ' tr cnt V c (.L b { db with limit:=gEL db (.L a { da with limit:=gEL da A B } A B) D } (.L a { da with limit:=gEL da A B } A B) D)→KV tr V σ σ'→Q .none σ'):wpFn fnD (n + 4) .turnLeft [.ref tr,.ref a] Q σ:=by
  have J:=S.djL
  have R0:Rot σ tr cnt c A B D a b (nodeL da A.root (some b) c.pid) (nodeL db B.root D.root (some a)) (some a) (some b):=by
    obtain ⟨hc,ht,_,_⟩:=S
    exact ⟨ht.1,by first | exact ht.2.2.1 | exact ht.2.1.1,by first | exact ht.2.1 | exact ht.2.2,by first | exact ht.2.2.2.1 | exact ht.2.1.2.2,by first | exact ht.2.2.2.2 | exact ht.2.1.2.1,hc⟩
  have ma:a ∈ tr :: V.map (·.i):=S.mem
  have mb:b ∈ tr :: V.map (·.i):=by rw [S.ids]; simp [T.L,T.R,T.ids]
  have mB:∀ k ∈ B.ids,k ∈ tr :: V.map (·.i):=fun k hk=>by rw [S.ids]; simp [T.L,T.R,T.ids,hk]
  have mc:c.key tr ∈ tr :: V.map (·.i):=by
    rw [S.ids]
    rcases c.key_mem tr with q | q | q
    · rw [q]; exact .head _
    · exact .tail _ (List.mem_append_left _ q)
    · exact .tail _ (List.mem_append_right _ (List.mem_append_right _ q))
  refine ⟨rfl,R.assign (n:=n + 2) (v:=.ref b) (ev_attr (e:=.var 1) rfl R0.ha) (R.call rfl (handDown_zero (n:=n + 1) R0.ha h0 (R.call rfl (handDown_zero (n:=n + 1) R0.hb h1 ?_))))⟩
  refine R.setattr (a:=a) (w:=opt B.root) (so':=nodeL da A.root B.root c.pid) (ev_attr (e:=.var 2) rfl R0.hb) rfl R0.ha (by show (Nd.set _ _ _).map SO.node = _; unfold Nd.set; rw [unopt_opt]; rfl) ?_
  have R1:=R0.setA J (ra':=nodeL da A.root B.root c.pid)
  have K1:KV tr V σ (upd σ a (nodeL da A.root B.root c.pid)):=Keep.put ma
  generalize upd σ a (nodeL da A.root B.root c.pid) = σ1 at *
  -- the inner tree's parent
  have mid:(∀ σ2,Rot σ2 tr cnt c A B D a b (nodeL da A.root B.root c.pid) (nodeL db B.root D.root (some a)) (some a) (some a)→KV tr V σ1 σ2→W (n + 2)
      (.cons (.expr (.call .hang (.cons (.var 0) (.cons (.attr (.var 1) .parent) (.cons (.var 1) (.cons (.var 2) .nil)))))) (.cons (.setattr (.var 2) .left (.var 1)) (.cons (.setattr (.var 1) .parent (.var 2)) (.cons (.setattr (.var 1) .limit (.call .greatestEnd (.cons (.var 1) .nil))) (.cons (.setattr (.var 2) .limit (.call .greatestEnd (.cons (.var 2) .nil))) .nil)))))
      (Fq Q) [some (.ref tr),some (.ref a),some (.ref b)] σ2)→W (n + 2)
      (.cons (.ite (.is true (.attr (.var 2) .left) .none) (.cons (.setattr (.attr (.var 2) .left) .parent (.var 1)) .nil) .nil) (.cons (.expr (.call .hang (.cons (.var 0) (.cons (.attr (.var 1) .parent) (.cons (.var 1) (.cons (.var 2) .nil)))))) (.cons (.setattr (.var 2) .left (.var 1)) (.cons (.setattr (.var 1) .parent (.var 2)) (.cons (.setattr (.var 1) .limit (.call .greatestEnd (.cons (.var 1) .nil))) (.cons (.setattr (.var 2) .limit (.call .greatestEnd (.cons (.var 2) .nil))) .nil))))))
      (Fq Q) [some (.ref tr),some (.ref a),some (.ref b)] σ1:=by
    intro kk
    cases B with
    | nil=>exact R.iteF (ev_isNone (o:=none) (ev_attr (e:=.var 2) rfl R1.hb)) rfl (kk σ1 ⟨R1.ha,R1.hb,R1.hA,trivial,R1.hD,R1.hc⟩ Keep.refl)
    | nd i d l r =>
      exact R.iteT (ev_isNone (o:=some i) (ev_attr (e:=.var 2) rfl R1.hb)) rfl (R.setattr (a:=i) (w:=.ref a) (so':=nodeO d l.root r.root (some a)) rfl (ev_attr (e:=.var 2) rfl R1.hb) R1.hB.1 rfl
        (kk _ (R1.par J) (Keep.put (mB i (List.mem_append_right _ (.head _))))))
  refine mid fun σ2 R2 K2=>?_
  have hbk:b ≠ c.key tr:=fun q=>by rcases c.key_mem tr with k | k; exact J.bS.2.2.2.1 (k ▸ q.symm); exact J.bS.2.2.2.2 _ k q.symm
  have hax:a ∉ c.pre:=fun q=>J.aS.2.2.2.2 a (.inl q) rfl
  have eR2:evs σ2 [some (SV.ref tr),some (.ref a),some (.ref b)] (.cons (.var 0) (.cons (.attr (.var 1) .parent) (.cons (.var 1) (.cons (.var 2) .nil)))) = some [.ref tr,opt c.pid,.ref a,.ref b]:=by
    show (some (SV.ref tr)).bind _ = _
    show ((ev σ2 _ (.attr (.var 1) .parent)).bind _).map _ = _
    rw [ev_attr (e:=.var 1) rfl R2.ha]
    rfl
  refine R.call eR2 (hang_some (n:=n + 1) R2.hc hax (by rw [R2.ha]; rfl) R2.hb hbk ?_)
  have R3:=(R2.rechild (o:=some b) J).setB J (rb':=nodeL db B.root D.root c.pid)
  have K3:KV tr V σ2 (upd (upd σ2 (c.key tr) (c.obj cnt (some b))) b (nodeL db B.root D.root c.pid)):=(Keep.put mc).trans (Keep.put mb)
  generalize upd (upd σ2 (c.key tr) (c.obj cnt (some b))) b (nodeL db B.root D.root c.pid) = σ3 at *
  refine R.setattr (a:=b) (w:=.ref a) (so':=nodeL db (some a) D.root c.pid) rfl rfl R3.hb rfl ?_
  have R4:=R3.setB J (rb':=nodeL db (some a) D.root c.pid)
  have K4:KV tr V σ3 (upd σ3 b (nodeL db (some a) D.root c.pid)):=Keep.put mb
  generalize upd σ3 b (nodeL db (some a) D.root c.pid) = σ4 at *
  refine R.setattr (a:=a) (w:=.ref b) (so':=nodeL da A.root B.root (some b)) rfl rfl R4.ha rfl ?_
  have R5:=R4.setA J (ra':=nodeL da A.root B.root (some b))
  have K5:KV tr V σ4 (upd σ4 a (nodeL da A.root B.root (some b))):=Keep.put ma
  generalize upd σ4 a (nodeL da A.root B.root (some b)) = σ5 at *
  refine R.setattr (a:=a) (w:=.int (gEL da A B)) (so':=nodeL { da with limit:=gEL da A B } A.root B.root (some b)) (by first | exact ev_gE (e:=.var 1) rfl R5.ha R5.hA R5.hB | exact ev_gE (e:=.var 1) rfl R5.ha R5.hB R5.hA) rfl R5.ha rfl ?_
  have R6:=R5.setA J (ra':=nodeL { da with limit:=gEL da A B } A.root B.root (some b))
  have K6:KV tr V σ5 (upd σ5 a (nodeL { da with limit:=gEL da A B } A.root B.root (some b))):=Keep.put ma
  generalize upd σ5 a (nodeL { da with limit:=gEL da A B } A.root B.root (some b)) = σ6 at *
  have tA:TreeAt σ6 (.L a { da with limit:=gEL da A B } A B) (some b):=by first | exact ⟨R6.ha,R6.hA,R6.hB⟩ | exact ⟨R6.ha,R6.hB,R6.hA⟩
  refine R.setattr (a:=b) (w:=.int (gEL db (.L a { da with limit:=gEL da A B } A B) D)) (so':=nodeL { db with limit:=gEL db (.L a { da with limit:=gEL da A B } A B) D } (some a) D.root c.pid)
    (by first | exact ev_gE (e:=.var 2) (l:=.L a { da with limit:=gEL da A B } A B) rfl R6.hb tA R6.hD | exact ev_gE (e:=.var 2) (rt:=.L a { da with limit:=gEL da A B } A B) rfl R6.hb R6.hD tA) rfl R6.hb rfl ?_
  have R7:=R6.setB J (rb':=nodeL { db with limit:=gEL db (.L a { da with limit:=gEL da A B } A B) D } (some a) D.root c.pid)
  have K7:KV tr V σ6 (upd σ6 b (nodeL { db with limit:=gEL db (.L a { da with limit:=gEL da A B } A B) D } (some a) D.root c.pid)):=Keep.put mb
  generalize upd σ6 b (nodeL { db with limit:=gEL db (.L a { da with limit:=gEL da A B } A B) D } (some a) D.root c.pid) = σ7 at *
  have tA7:TreeAt σ7 (.L a { da with limit:=gEL da A B } A B) (some b):=by first | exact ⟨R7.ha,R7.hA,R7.hB⟩ | exact ⟨R7.ha,R7.hB,R7.hA⟩
  refine Fq.now (fl:=.next) (k σ7 ⟨R7.hc,by first | exact ⟨R7.hb,tA7,R7.hD⟩ | exact ⟨R7.hb,R7.hD,tA7⟩,S.nd,?_⟩ (((((K1.trans K2).trans K3).trans K4).trans K5).trans (K6.trans K7)))
  rw [← S.vals]
  simp only [T.L,T.R,T.vals,h0,h1,Int.add_zero,List.append_assoc,List.cons_append]
  rfl
theorem St.djR {σ:Hp} {tr:Nat} {cnt:Int} {V:List En} {c:C} {A B D:T} {a b:Nat} {da db:Dt} (h:St σ tr cnt V c (.R a da A (.R b db B D))):Dj tr c A B D a b:=by
  first | exact .of h.ap | exact .of (h.ap.sym.perm ((List.perm_middle.trans (List.perm_append_comm.cons b)).trans List.perm_middle.symm))
theorem turnRight_ok {n:Nat} {Q:SV→Hp→Prop} {σ:Hp} {tr:Nat} {cnt:Int} {V:List En} {c:C} {A B D:T} {a b:Nat} {da db:Dt} (S:St σ tr cnt V c (.R a da A (.R b db B D))) (h0:da.offset = 0) (h1:db.offset = 0)
    (k:∀ σ',St σ' tr cnt V c (.R b { db with limit:=gER db (.R a { da with limit:=gER da A B } A B) D } (.R a { da with limit:=gER da A B } A B) D)→KV tr V σ σ'→Q .none σ'):wpFn fnD (n + 4) .turnRight [.ref tr,.ref a] Q σ:=by
  have J:=S.djR
  have R0:Rot σ tr cnt c A B D a b (nodeR da A.root (some b) c.pid) (nodeR db B.root D.root (some a)) (some a) (some b):=by
    obtain ⟨hc,ht,_,_⟩:=S
    exact ⟨ht.1,by first | exact ht.2.2.1 | exact ht.2.1.1,by first | exact ht.2.1 | exact ht.2.2,by first | exact ht.2.2.2.1 | exact ht.2.1.2.2,by first | exact ht.2.2.2.2 | exact ht.2.1.2.1,hc⟩
  have ma:a ∈ tr :: V.map (·.i):=S.mem
  have mb:b ∈ tr :: V.map (·.i):=by rw [S.ids]; simp [T.L,T.R,T.ids]
  have mB:∀ k ∈ B.ids,k ∈ tr :: V.map (·.i):=fun k hk=>by rw [S.ids]; simp [T.L,T.R,T.ids,hk]
  have mc:c.key tr ∈ tr :: V.map (·.i):=by
    rw [S.ids]
    rcases c.key_mem tr with q | q | q
    · rw [q]; exact .head _
    · exact .tail _ (List.mem_append_left _ q)
    · exact .tail _ (List.mem_append_right _ (List.mem_append_right _ q))
  refine ⟨rfl,R.assign (n:=n + 2) (v:=.ref b) (ev_attr (e:=.var 1) rfl R0.ha) (R.call rfl (handDown_zero (n:=n + 1) R0.ha h0 (R.call rfl (handDown_zero (n:=n + 1) R0.hb h1 ?_))))⟩
  refine R.setattr (a:=a) (w:=opt B.root) (so':=nodeR da A.root B.root c.pid) (ev_attr (e:=.var 2) rfl R0.hb) rfl R0.ha (by show (Nd.set _ _ _).map SO.node = _; unfold Nd.set; rw [unopt_opt]; rfl) ?_
  have R1:=R0.setA J (ra':=nodeR da A.root B.root c.pid)
  have K1:KV tr V σ (upd σ a (nodeR da A.root B.root c.pid)):=Keep.put ma
  generalize upd σ a (nodeR da A.root B.root c.pid) = σ1 at *
  -- the inner tree's parent
  have mid:(∀ σ2,Rot σ2 tr cnt c A B D a b (nodeR da A.root B.root c.pid) (nodeR db B.root D.root (some a)) (some a) (some a)→KV tr V σ1 σ2→W (n + 2)
      (.cons (.expr (.call .hang (.cons (.var 0) (.cons (.attr (.var 1) .parent) (.cons (.var 1) (.cons (.var 2) .nil)))))) (.cons (.setattr (.var 2) .right (.var 1)) (.cons (.setattr (.var 1) .parent (.var 2)) (.cons (.setattr (.var 1) .limit (.call .greatestEnd (.cons (.var 1) .nil))) (.cons (.setattr (.var 2) .limit (.call .greatestEnd (.cons (.var 2) .nil))) .nil)))))
      (Fq Q) [some (.ref tr),some (.ref a),some (.ref b)] σ2)→W (n + 2)
      (.cons (.ite (.is true (.attr (.var 2) .right) .none) (.cons (.setattr (.attr (.var 2) .right) .parent (.var 1)) .nil) .nil) (.cons (.expr (.call .hang (.cons (.var 0) (.cons (.attr (.var 1) .parent) (.cons (.var 1) (.cons (.var 2) .nil)))))) (.cons (.setattr (.var 2) .right (.var 1)) (.cons (.setattr (.var 1) .parent (.var 2)) (.cons (.setattr (.var 1) .limit (.call .greatestEnd (.cons (.var 1) .nil))) (.cons (.setattr (.var 2) .limit (.call .greatestEnd (.cons (.var 2) .nil))) .nil))))))
      (Fq Q) [some (.ref tr),some (.ref a),some (.ref b)] σ1:=by
    intro kk
    cases B with
    | nil=>exact R.iteF (ev_isNone (o:=none) (ev_attr (e:=.var 2) rfl R1.hb)) rfl (kk σ1 ⟨R1.ha,R1.hb,R1.hA,trivial,R1.hD,R1.hc⟩ Keep.refl)
    | nd i d l r =>
      exact R.iteT (ev_isNone (o:=some i) (ev_attr (e:=.var 2) rfl R1.hb)) rfl (R.setattr (a:=i) (w:=.ref a) (so':=nodeO d l.root r.root (some a)) rfl (ev_attr (e:=.var 2) rfl R1.hb) R1.hB.1 rfl
        (kk _ (R1.par J) (Keep.put (mB i (List.mem_append_right _ (.head _))))))
  refine mid fun σ2 R2 K2=>?_
  have hbk:b ≠ c.key tr:=fun q=>by rcases c.key_mem tr with k | k; exact J.bS.2.2.2.1 (k ▸ q.symm); exact J.bS.2.2.2.2 _ k q.symm
  have hax:a ∉ c.pre:=fun q=>J.aS.2.2.2.2 a (.inl q) rfl
  have eR2:evs σ2 [some (SV.ref tr),some (.ref a),some (.ref b)] (.cons (.var 0) (.cons (.attr (.var 1) .parent) (.cons (.var 1) (.cons (.var 2) .nil)))) = some [.ref tr,opt c.pid,.ref a,.ref b]:=by
    show (some (SV.ref tr)).bind _ = _
    show ((ev σ2 _ (.attr (.var 1) .parent)).bind _).map _ = _
    rw [ev_attr (e:=.var 1) rfl R2.ha]
    rfl
  refine R.call eR2 (hang_some (n:=n + 1) R2.hc hax (by rw [R2.ha]; rfl) R2.hb hbk ?_)
  have R3:=(R2.rechild (o:=some b) J).setB J (rb':=nodeR db B.root D.root c.pid)
  have K3:KV tr V σ2 (upd (upd σ2 (c.key tr) (c.obj cnt (some b))) b (nodeR db B.root D.root c.pid)):=(Keep.put mc).trans (Keep.put mb)
  generalize upd (upd σ2 (c.key tr) (c.obj cnt (some b))) b (nodeR db B.root D.root c.pid) = σ3 at *
  refine R.setattr (a:=b) (w:=.ref a) (so':=nodeR db (some a) D.root c.pid) rfl rfl R3.hb rfl ?_
  have R4:=R3.setB J (rb':=nodeR db (some a) D.root c.pid)
  have K4:KV tr V σ3 (upd σ3 b (nodeR db (some a) D.root c.pid)):=Keep.put mb
  generalize upd σ3 b (nodeR db (some a) D.root c.pid) = σ4 at *
  refine R.setattr (a:=a) (w:=.ref b) (so':=nodeR da A.root B.root (some b)) rfl rfl R4.ha rfl ?_
  have R5:=R4.setA J (ra':=nodeR da A.root B.root (some b))
  have K5:KV tr V σ4 (upd σ4 a (nodeR da A.root B.root (some b))):=Keep.put ma
  generalize upd σ4 a (nodeR da A.root B.root (some b)) = σ5 at *
  refine R.setattr (a:=a) (w:=.int (gER da A B)) (so':=nodeR { da with limit:=gER da A B } A.root B.root (some b)) (by first | exact ev_gE (e:=.var 1) rfl R5.ha R5.hA R5.hB | exact ev_gE (e:=.var 1) rfl R5.ha R5.hB R5.hA) rfl R5.ha rfl ?_
  have R6:=R5.setA J (ra':=nodeR { da with limit:=gER da A B } A.root B.root (some b))
  have K6:KV tr V σ5 (upd σ5 a (nodeR { da with limit:=gER da A B } A.root B.root (some b))):=Keep.put ma
  generalize upd σ5 a (nodeR { da with limit:=gER da A B } A.root B.root (some b)) = σ6 at *
  have tA:TreeAt σ6 (.R a { da with limit:=gER da A B } A B) (some b):=by first | exact ⟨R6.ha,R6.hA,R6.hB⟩ | exact ⟨R6.ha,R6.hB,R6.hA⟩
  refine R.setattr (a:=b) (w:=.int (gER db (.R a { da with limit:=gER da A B } A B) D)) (so':=nodeR { db with limit:=gER db (.R a { da with limit:=gER da A B } A B) D } (some a) D.root c.pid)
    (by first | exact ev_gE (e:=.var 2) (l:=.R a { da with limit:=gER da A B } A B) rfl R6.hb tA R6.hD | exact ev_gE (e:=.var 2) (rt:=.R a { da with limit:=gER da A B } A B) rfl R6.hb R6.hD tA) rfl R6.hb rfl ?_
  have R7:=R6.setB J (rb':=nodeR { db with limit:=gER db (.R a { da with limit:=gER da A B } A B) D } (some a) D.root c.pid)
  have K7:KV tr V σ6 (upd σ6 b (nodeR { db with limit:=gER db (.R a { da with limit:=gER da A B } A B) D } (some a) D.root c.pid)):=Keep.put mb
  generalize upd σ6 b (nodeR { db with limit:=gER db (.R a { da with limit:=gER da A B } A B) D } (some a) D.root c.pid) = σ7 at *
  have tA7:TreeAt σ7 (.R a { da with limit:=gER da A B } A B) (some b):=by first | exact ⟨R7.ha,R7.hA,R7.hB⟩ | exact ⟨R7.ha,R7.hB,R7.hA⟩
  refine Fq.now (fl:=.next) (k σ7 ⟨R7.hc,by first | exact ⟨R7.hb,tA7,R7.hD⟩ | exact ⟨R7.hb,R7.hD,tA7⟩,S.nd,?_⟩ (((((K1.trans K2).trans K3).trans K4).trans K5).trans (K6.trans K7)))
  rw [← S.vals]
  simp only [T.L,T.R,T.vals,h0,h1,Int.add_zero,List.append_assoc,List.cons_append]
  rfl
end Mine
namespace Mine
noncomputable def T.BH:T→Nat→Prop
  | .nil,h=>h = 0
  | .nd _ d l r,h=>∃ k,l.BH k∧r.BH k∧h = k + (if d.red then 0 else 1)
noncomputable def T.NR:T→Prop
  | .nil=>True
  | .nd _ d l r=>(d.red = true→l.isRed = false∧r.isRed = false)∧l.NR∧r.NR
noncomputable def T.Lim:T→Prop
  | .nil=>True
  | .nd _ d l r=>d.limit = gEnd d l r∧l.Lim∧r.Lim
noncomputable def C.BH:C→Nat→Prop
  | .top,_=>True
  | .L _ d r c,h=>r.BH h∧c.BH (h + (if d.red then 0 else 1))
  | .R _ d l c,h=>l.BH h∧c.BH (h + (if d.red then 0 else 1))
noncomputable def C.NR:C→Bool→Prop
  | .top,_=>True
  | .L _ d r c,b=>(d.red = true→b = false∧r.isRed = false)∧r.NR∧c.NR d.red
  | .R _ d l c,b=>(d.red = true→l.isRed = false∧b = false)∧l.NR∧c.NR d.red
noncomputable def C.Lim:C→Option Int→Prop
  | .top,_=>True
  | .L _ d r c,x=>d.limit = mxo (mxo d.end_ x) r.lim∧r.Lim∧c.Lim (some (d.limit + d.offset))
  | .R _ d l c,x=>d.limit = mxo (mxo d.end_ l.lim) x∧l.Lim∧c.Lim (some (d.limit + d.offset))
noncomputable def C.rr:C→Bool→Bool
  | .top,b=>b
  | .L _ d _ c,_=>c.rr d.red
  | .R _ d _ c,_=>c.rr d.red
noncomputable def C.Z0:C→Prop
  | .top=>True
  | .L _ d _ c=>d.offset = 0∧c.Z0
  | .R _ d _ c=>d.offset = 0∧c.Z0
noncomputable def C.len:C→Nat
  | .top=>0
  | .L _ _ _ c=>c.len + 1
  | .R _ _ _ c=>c.len + 1
noncomputable def plug:C→T→T
  | .top,t=>t
  | .L i d r c,t=>plug c (.nd i d t r)
  | .R i d l c,t=>plug c (.nd i d l t)
theorem plug_BH:∀ {c:C} {t:T} {h:Nat},c.BH h→t.BH h→∃ k,(plug c t).BH k
  | .top,_,h,_,q=>⟨h,q⟩
  | .L i d r c,t,_,⟨a,b⟩,q=>plug_BH (c:=c) (t:=.nd i d t r) b ⟨_,q,a,rfl⟩
  | .R i d l c,t,_,⟨a,b⟩,q=>plug_BH (c:=c) (t:=.nd i d l t) b ⟨_,a,q,rfl⟩
theorem plug_NR:∀ {c:C} {t:T},c.NR t.isRed→t.NR→(plug c t).NR
  | .top,_,_,q=>q
  | .L i d r c,t,⟨a,b,e⟩,q=>plug_NR (c:=c) (t:=.nd i d t r) e ⟨a,q,b⟩
  | .R i d l c,t,⟨a,b,e⟩,q=>plug_NR (c:=c) (t:=.nd i d l t) e ⟨a,b,q⟩
theorem plug_Lim:∀ {c:C} {t:T},c.Lim t.lim→t.Lim→(plug c t).Lim
  | .top,_,_,q=>q
  | .L i d r c,t,⟨a,b,e⟩,q=>plug_Lim (c:=c) (t:=.nd i d t r) e ⟨a,q,b⟩
  | .R i d l c,t,⟨a,b,e⟩,q=>plug_Lim (c:=c) (t:=.nd i d l t) e ⟨a,b,q⟩
theorem plug_red:∀ {c:C} {t:T},(plug c t).isRed = c.rr t.isRed
  | .top,_=>rfl
  | .L i d r c,t=>plug_red (c:=c) (t:=.nd i d t r)
  | .R i d l c,t=>plug_red (c:=c) (t:=.nd i d l t)
theorem St.up {σ:Hp} {tr:Nat} {cnt:Int} {V:List En}:∀ {c:C} {t:T},St σ tr cnt V c t→St σ tr cnt V .top (plug c t)
  | .top,_,h=>h
  | .L i d r c,t,h=>St.up (c:=c) (t:=.nd i d t r) h.upL
  | .R i d l c,t,h=>St.up (c:=c) (t:=.nd i d l t) h.upR
theorem plug_nd:∀ {c:C} {i:Nat} {d:Dt} {l r:T},∃ j e x y,plug c (.nd i d l r) = .nd j e x y
  | .top,_,_,_,_=>⟨_,_,_,_,rfl⟩
  | .L i d r c,j,e,x,y=>plug_nd (c:=c) (i:=i) (d:=d) (l:=.nd j e x y) (r:=r)
  | .R i d l c,j,e,x,y=>plug_nd (c:=c) (i:=i) (d:=d) (l:=l) (r:=.nd j e x y)
structure Ok (t:T):Prop where
  bh:∃ h,t.BH h
  nr:t.NR
  rb:t.isRed = false
  lim:t.Lim
theorem mxo_some (a b:Int):mxo a (some b) = max a b:=by
  show (if b > a then b else a) = max a b
  by_cases h:a < b
  · rw [if_pos h,Int.max_eq_right (Int.le_of_lt h)]
  · rw [if_neg h,Int.max_eq_left (Int.not_lt.mp h)]
theorem mxo_max (a b:Int) (z:Option Int):mxo (max a b) z = max a (mxo b z):=by
  cases z with
  | none=>rfl
  | some c=>rw [mxo_some,mxo_some,Int.max_assoc]
theorem rot_mx (e1 e2:Int) (x y z:Option Int):mxo (mxo e2 (some (mxo (mxo e1 x) y))) z = mxo (mxo e1 x) (some (mxo (mxo e2 y) z)):=by
  rw [mxo_some,mxo_some,Int.max_comm e2,mxo_max]
  cases y with
  | none=>rfl
  | some b =>
    show max (mxo (mxo e1 x) (some b)) _ = _
    rw [mxo_some,mxo_some,Int.max_comm e2 b,mxo_max,Int.max_assoc]
theorem mxo_comm (a:Int) (x y:Option Int):mxo (mxo a x) y = mxo (mxo a y) x:=by
  cases x with
  | none=>cases y <;> rfl
  | some b=>rw [mxo_some,Int.max_comm,mxo_max,mxo_some,Int.max_comm]
theorem rot_mx' (e1 e2:Int) (x y z:Option Int):mxo (mxo e2 z) (some (mxo (mxo e1 y) x)) = mxo (mxo e1 (some (mxo (mxo e2 z) y))) x:=by
  rw [mxo_comm e2 z,mxo_comm e1 y x,rot_mx,mxo_comm e1 x,mxo_comm e2 y z]
structure Ins (c:C) (d:Dt) (l r:T):Prop where
  red:d.red = true
  off:d.offset = 0
  lb:l.isRed = false
  rb:r.isRed = false
  ln:l.NR
  rn:r.NR
  bh:∃ h,l.BH h∧r.BH h∧c.BH h
  cn:c.NR false
  z0:c.Z0
  rt:c = .top ∨ c.rr true = false
  lim:d.limit = gEnd d l r∧l.Lim∧r.Lim
  cl:c.Lim (some (d.limit + d.offset))
theorem rr_ne:∀ {c:C} {a b:Bool},c ≠ .top→c.rr a = c.rr b
  | .top,_,_,h=>absurd rfl h
  | .L _ _ _ _,_,_,_=>rfl
  | .R _ _ _ _,_,_,_=>rfl
theorem Ins.done {c:C} {i:Nat} {d:Dt} {l r:T} (I:Ins c d l r) (hp:c.NR true):∃ h,(plug c (.nd i d l r)).BH h∧(plug c (.nd i d l r)).NR∧(plug c (.nd i d l r)).Lim:=by
  obtain ⟨h,h1,h2,h3⟩:=I.bh
  have e:(T.nd i d l r).BH h:=⟨h,h1,h2,by rw [I.red]; rfl⟩
  obtain ⟨k,hk⟩:=plug_BH h3 e
  refine ⟨k,hk,plug_NR ?_ ⟨fun _=>⟨I.lb,I.rb⟩,I.ln,I.rn⟩,plug_Lim I.cl I.lim⟩
  show c.NR d.red
  rw [I.red]
  exact hp
theorem Ok.black {i:Nat} {d:Dt} {l r:T} {h:Nat} (h1:(T.nd i d l r).BH h) (h2:(T.nd i d l r).NR) (h3:(T.nd i d l r).Lim):Ok (.nd i { d with red:=false } l r):=by
  obtain ⟨k,a,b,_⟩:=h1
  exact ⟨⟨k + 1,k,a,b,rfl⟩,⟨(fun q=>nomatch q),h2.2⟩,rfl,h3⟩
end Mine
namespace Mine
theorem C.L_BH {i d t c h}:(C.L i d t c).BH h = (t.BH h∧c.BH (h + (if d.red then 0 else 1))):=rfl
theorem Ins.uncleL {c:C} {p g u:Nat} {dp dg du:Dt} {pl pr ul ur:T} {h:Nat} (hpl:pl.BH h) (hpr:pr.BH h) (cb:C.BH (.L g dg (.nd u du ul ur) c) h) (cn:C.NR (.L g dg (.nd u du ul ur) c) true) (dpr:dp.red = true) (dur:du.red = true)
    (pn:pl.NR∧pr.NR) (z0:C.Z0 (.L g dg (.nd u du ul ur) c)) (rt:C.rr (.L g dg (.nd u du ul ur) c) true = false) (lim:dp.limit = gEnd dp pl pr∧pl.Lim∧pr.Lim) (cl:C.Lim (.L g dg (.nd u du ul ur) c) (some (dp.limit + dp.offset))) :
    (if true then Ins c { dg with red:=true } (.nd p { dp with red:=false } pl pr) (.nd u { du with red:=false } ul ur) else Ins c { dg with red:=true } (.nd u { du with red:=false } ul ur) (.nd p { dp with red:=false } pl pr)):=by
  have gb:dg.red = false:=by
    cases e:dg.red with
    | false=>rfl
    | true=>have:=cn.1 e; first | exact absurd this.1 (by decide) | exact absurd this.2 (by decide)
  obtain ⟨⟨k,u1,u2,hk⟩,cb⟩:=cb
  rw [dur] at hk
  obtain rfl:h = k:=hk
  rw [gb] at cb
  have un:=cn.2.1
  simp only [Bool.false_eq_true,if_true,if_false]
  have pB:(T.nd p { dp with red:=false } pl pr).BH (h + 1):=⟨h,hpl,hpr,rfl⟩
  have uB:(T.nd u { du with red:=false } ul ur).BH (h + 1):=⟨h,u1,u2,rfl⟩
  have cnn:c.NR false:=by have:=cn.2.2; rw [gb] at this; exact this
  have rt':c = .top ∨ c.rr true = false:=by
    cases c with
    | top=>exact .inl rfl
    | L i d t c=>exact .inr rt
    | R i d t c=>exact .inr rt
  first
    | exact ⟨rfl,z0.1,rfl,rfl,⟨(fun q=>nomatch q),pn⟩,⟨(fun q=>nomatch q),un.2⟩,⟨h + 1,pB,uB,cb⟩,cnn,z0.2,rt',⟨cl.1,lim,cl.2.1⟩,cl.2.2⟩
    | exact ⟨rfl,z0.1,rfl,rfl,⟨(fun q=>nomatch q),un.2⟩,⟨(fun q=>nomatch q),pn⟩,⟨h + 1,uB,pB,cb⟩,cnn,z0.2,rt',⟨cl.1,cl.2.1,lim⟩,cl.2.2⟩
theorem Ins.turnL {c:C} {y g:Nat} {dy dg dz:Dt} {zl zr B unc:T} {z h:Nat} (zred:dz.red = true) (zb:zl.isRed = false∧zr.isRed = false) (zn:zl.NR∧zr.NR) (zo:dz.offset = 0) (hz:zl.BH h∧zr.BH h) (hB:B.BH h) (bb:B.isRed = false) (bn:B.NR) (yo:dy.offset = 0)
    (cb:C.BH (.L g dg unc c) h) (gb:dg.red = false) (ub:unc.isRed = false) (un:unc.NR) (cn:c.NR false) (z0:C.Z0 (.L g dg unc c)) (rt:C.rr (.L g dg unc c) true = false) (ul:unc.Lim) (bl:B.Lim) (zlm:dz.limit = gEnd dz zl zr∧zl.Lim∧zr.Lim)
    (yl:dy.limit = gEL dy (.nd z dz zl zr) B) (gl:dg.limit = gEL dg (.nd y dy (.nd z dz zl zr) B) unc) (cl:c.Lim (some (dg.limit + dg.offset))) :
    Ins (.L y { dy with red:=false,limit:=gEL dy (.nd z dz zl zr) (.R g { dg with red:=true,limit:=gER dg unc B } unc B) } (.R g { dg with red:=true,limit:=gER dg unc B } unc B) c) dz zl zr:=by
  obtain ⟨uh,cb⟩:=cb
  rw [gb] at cb
  have gz:dg.offset = 0:=z0.1
  have key:gEL dy (.nd z dz zl zr) (.R g { dg with red:=true,limit:=gER dg unc B } unc B) = dg.limit:=by
    rw [gl]
    show mxo _ _ = mxo _ _
    simp only [T.lim,gz,yo,Int.add_zero,yl]
    first | exact (rot_mx' _ _ _ _ _) | exact (rot_mx _ _ _ _ _)
  have rt':C.rr (.L y { dy with red:=false,limit:=gEL dy (.nd z dz zl zr) (.R g { dg with red:=true,limit:=gER dg unc B } unc B) } (.R g { dg with red:=true,limit:=gER dg unc B } unc B) c) true = false:=by
    cases c with
    | top=>rfl
    | L i d t c=>exact rt
    | R i d t c=>exact rt
  refine ⟨zred,zo,zb.1,zb.2,zn.1,zn.2,⟨h,hz.1,hz.2,?_,cb⟩,⟨(fun q=>nomatch q),?_,?_⟩,⟨yo,z0.2⟩,.inr rt',zlm,⟨rfl,?_,?_⟩⟩
  · first | exact ⟨h,hB,uh,rfl⟩ | exact ⟨h,uh,hB,rfl⟩
  · first | exact ⟨fun _=>⟨bb,ub⟩,bn,un⟩ | exact ⟨fun _=>⟨ub,bb⟩,un,bn⟩
  · exact cn
  · first | exact ⟨rfl,bl,ul⟩ | exact ⟨rfl,ul,bl⟩
  · show c.Lim (some (gEL dy (.nd z dz zl zr) (.R g { dg with red:=true,limit:=gER dg unc B } unc B) + dy.offset))
    rw [key,yo]
    rw [gz] at cl
    exact cl
theorem C.R_BH {i d t c h}:(C.R i d t c).BH h = (t.BH h∧c.BH (h + (if d.red then 0 else 1))):=rfl
theorem Ins.uncleR {c:C} {p g u:Nat} {dp dg du:Dt} {pl pr ul ur:T} {h:Nat} (hpl:pl.BH h) (hpr:pr.BH h) (cb:C.BH (.R g dg (.nd u du ul ur) c) h) (cn:C.NR (.R g dg (.nd u du ul ur) c) true) (dpr:dp.red = true) (dur:du.red = true)
    (pn:pl.NR∧pr.NR) (z0:C.Z0 (.R g dg (.nd u du ul ur) c)) (rt:C.rr (.R g dg (.nd u du ul ur) c) true = false) (lim:dp.limit = gEnd dp pl pr∧pl.Lim∧pr.Lim) (cl:C.Lim (.R g dg (.nd u du ul ur) c) (some (dp.limit + dp.offset))) :
    (if false then Ins c { dg with red:=true } (.nd p { dp with red:=false } pl pr) (.nd u { du with red:=false } ul ur) else Ins c { dg with red:=true } (.nd u { du with red:=false } ul ur) (.nd p { dp with red:=false } pl pr)):=by
  have gb:dg.red = false:=by
    cases e:dg.red with
    | false=>rfl
    | true=>have:=cn.1 e; first | exact absurd this.1 (by decide) | exact absurd this.2 (by decide)
  obtain ⟨⟨k,u1,u2,hk⟩,cb⟩:=cb
  rw [dur] at hk
  obtain rfl:h = k:=hk
  rw [gb] at cb
  have un:=cn.2.1
  simp only [Bool.false_eq_true,if_true,if_false]
  have pB:(T.nd p { dp with red:=false } pl pr).BH (h + 1):=⟨h,hpl,hpr,rfl⟩
  have uB:(T.nd u { du with red:=false } ul ur).BH (h + 1):=⟨h,u1,u2,rfl⟩
  have cnn:c.NR false:=by have:=cn.2.2; rw [gb] at this; exact this
  have rt':c = .top ∨ c.rr true = false:=by
    cases c with
    | top=>exact .inl rfl
    | L i d t c=>exact .inr rt
    | R i d t c=>exact .inr rt
  first
    | exact ⟨rfl,z0.1,rfl,rfl,⟨(fun q=>nomatch q),pn⟩,⟨(fun q=>nomatch q),un.2⟩,⟨h + 1,pB,uB,cb⟩,cnn,z0.2,rt',⟨cl.1,lim,cl.2.1⟩,cl.2.2⟩
    | exact ⟨rfl,z0.1,rfl,rfl,⟨(fun q=>nomatch q),un.2⟩,⟨(fun q=>nomatch q),pn⟩,⟨h + 1,uB,pB,cb⟩,cnn,z0.2,rt',⟨cl.1,cl.2.1,lim⟩,cl.2.2⟩
theorem Ins.turnR {c:C} {y g:Nat} {dy dg dz:Dt} {zl zr B unc:T} {z h:Nat} (zred:dz.red = true) (zb:zl.isRed = false∧zr.isRed = false) (zn:zl.NR∧zr.NR) (zo:dz.offset = 0) (hz:zl.BH h∧zr.BH h) (hB:B.BH h) (bb:B.isRed = false) (bn:B.NR) (yo:dy.offset = 0)
    (cb:C.BH (.R g dg unc c) h) (gb:dg.red = false) (ub:unc.isRed = false) (un:unc.NR) (cn:c.NR false) (z0:C.Z0 (.R g dg unc c)) (rt:C.rr (.R g dg unc c) true = false) (ul:unc.Lim) (bl:B.Lim) (zlm:dz.limit = gEnd dz zl zr∧zl.Lim∧zr.Lim)
    (yl:dy.limit = gER dy (.nd z dz zl zr) B) (gl:dg.limit = gER dg (.nd y dy (.nd z dz zl zr) B) unc) (cl:c.Lim (some (dg.limit + dg.offset))) :
    Ins (.R y { dy with red:=false,limit:=gER dy (.nd z dz zl zr) (.L g { dg with red:=true,limit:=gEL dg unc B } unc B) } (.L g { dg with red:=true,limit:=gEL dg unc B } unc B) c) dz zl zr:=by
  obtain ⟨uh,cb⟩:=cb
  rw [gb] at cb
  have gz:dg.offset = 0:=z0.1
  have key:gER dy (.nd z dz zl zr) (.L g { dg with red:=true,limit:=gEL dg unc B } unc B) = dg.limit:=by
    rw [gl]
    show mxo _ _ = mxo _ _
    simp only [T.lim,gz,yo,Int.add_zero,yl]
    first | exact (rot_mx' _ _ _ _ _) | exact (rot_mx _ _ _ _ _)
  have rt':C.rr (.R y { dy with red:=false,limit:=gER dy (.nd z dz zl zr) (.L g { dg with red:=true,limit:=gEL dg unc B } unc B) } (.L g { dg with red:=true,limit:=gEL dg unc B } unc B) c) true = false:=by
    cases c with
    | top=>rfl
    | L i d t c=>exact rt
    | R i d t c=>exact rt
  refine ⟨zred,zo,zb.1,zb.2,zn.1,zn.2,⟨h,hz.1,hz.2,?_,cb⟩,⟨(fun q=>nomatch q),?_,?_⟩,⟨yo,z0.2⟩,.inr rt',zlm,⟨rfl,?_,?_⟩⟩
  · first | exact ⟨h,hB,uh,rfl⟩ | exact ⟨h,uh,hB,rfl⟩
  · first | exact ⟨fun _=>⟨bb,ub⟩,bn,un⟩ | exact ⟨fun _=>⟨ub,bb⟩,un,bn⟩
  · exact cn
  · first | exact ⟨rfl,bl,ul⟩ | exact ⟨rfl,ul,bl⟩
  · show c.Lim (some (gER dy (.nd z dz zl zr) (.L g { dg with red:=true,limit:=gEL dg unc B } unc B) + dy.offset))
    rw [key,yo]
    rw [gz] at cl
    exact cl
end Mine
namespace Mine
theorem ev_var {σ:Hp} {ρ:Lc} {i:Nat} {v:SV} (h:rd ρ i = some v):ev σ ρ (.var i) = some v:=h
theorem upd_id {σ:Hp} {a:Nat} {o:SO} (h:σ a = some o):upd σ a o = σ:=by
  funext b
  unfold upd
  split
  · rename_i q; rw [q]; exact h.symm
  · rfl
theorem ev_attrT {σ:Hp} {ρ:Lc} {e:E} {f:Fld} {a:Nat} {t:Tr} (h:ev σ ρ e = some (.ref a)) (ha:σ a = some (.tree t)):ev σ ρ (.attr e f) = t.get f:=by
  show (ev σ ρ e).bind _ = _
  rw [h]
  show (getF σ (.ref a) f) = _
  unfold getF SV.asRef
  rw [Option.bind_some,ha]
  rfl
theorem St.alive {σ:Hp} {tr:Nat} {cnt:Int} {V:List En} {c:C} {i:Nat} {d:Dt} {l r:T} (h:St σ tr cnt V c (.nd i d l r)):(σ i).isSome = true:=by rw [h.node]; rfl
theorem root_eq {t:T} {x:Nat} (h:t.root = some x):∃ d l r,t = .nd x d l r:=by
  cases t with
  | nil=>cases h
  | nd i d l r=>cases h; exact ⟨d,l,r,rfl⟩
theorem ev_isSon {σ:Hp} {ρ:Lc} {a b:E} {t:T} {p:Option Nat} {x:Nat} (ht:TreeAt σ t p) (h1:ev σ ρ a = some (opt t.root)) (h2:ev σ ρ b = some (.ref x)) (hx:(σ x).isSome = true) (hn:x ∉ t.ids):ev σ ρ (.is false a b) = some (.bool false):=by
  cases t with
  | nil=>exact ev_isNR h1 h2
  | nd j e l r =>
    rw [ev_isRef h1 h2 (by rw [ht.1]; rfl) hx]
    have:j ≠ x:=fun q=>hn (by rw [← q]; exact List.mem_append_right _ (.head _))
    simp [this]
theorem turnedInward_outL {n:Nat} {Q:SV→Hp→Prop} {σ:Hp} {tr:Nat} {cnt:Int} {V:List En} {c:C} {x p:Nat} {d dp:Dt} {l r B:T} (S:St σ tr cnt V c (.L p dp (.nd x d l r) B)) (k:Q (.ref x) σ):wpFn fnD (n + 5) .turnedInward [.ref tr,.ref x,.bool true] Q σ:=by
  have SX:σ x = some (nodeO d l.root r.root (some p)):=by first | exact S.tree.2.1.1 | exact S.tree.2.2.1
  have hx:x ∉ B.ids:=by first | exact (S.ap.XS x (List.mem_append_right _ (.head _))).1 | exact (S.ap.YS x (List.mem_append_right _ (.head _))).1
  have hB:TreeAt σ B (some p):=by first | exact S.tree.2.2 | exact S.tree.2.1
  refine ⟨rfl,R.assign (n:=n + 3) (v:=.ref p) (ev_attr (e:=.var 1) rfl SX) ?_⟩
  first
    | exact R.iteF (ev_and (t:=true) rfl (ev_isSon (x:=x) hB (ev_attr (e:=.var 3) rfl S.node) rfl (by rw [SX]; rfl) hx)) rfl (R.iteF (ev_and (a:=.not (.var 2)) (t:=false) rfl rfl) rfl (R.ret (v:=.ref x) rfl (Fq.now (fl:=.ret (.ref x)) k)))
    | exact R.iteF (ev_and (t:=false) rfl rfl) rfl (R.iteF (ev_and (a:=.not (.var 2)) (t:=true) rfl (ev_isSon (x:=x) hB (ev_attr (e:=.var 3) rfl S.node) rfl (by rw [SX]; rfl) hx)) rfl (R.ret (v:=.ref x) rfl (Fq.now (fl:=.ret (.ref x)) k)))
theorem turnedInward_inL {n:Nat} {Q:SV→Hp→Prop} {σ:Hp} {tr:Nat} {cnt:Int} {V:List En} {c:C} {x p:Nat} {d dp:Dt} {l r A:T} (S:St σ tr cnt V c (.L p dp A (.L x d l r))) (h0:dp.offset = 0) (h1:d.offset = 0)
    (k:∀ σ',St σ' tr cnt V c (.L x { d with limit:=gEL d (.L p { dp with limit:=gEL dp A l } A l) r } (.L p { dp with limit:=gEL dp A l } A l) r)→KV tr V σ σ'→Q (.ref p) σ'):wpFn fnD (n + 5) .turnedInward [.ref tr,.ref x,.bool true] Q σ:=by
  have SX:(σ x).isSome = true∧getF σ (.ref x) .parent = some (.ref p):=by
    have:∃ a b,σ x = some (nodeO d a b (some p)):=by first | exact ⟨_,_,S.tree.2.2.1⟩ | exact ⟨_,_,S.tree.2.1.1⟩
    obtain ⟨a,b,e⟩:=this
    exact ⟨by rw [e]; rfl,getF_node e⟩
  refine ⟨rfl,R.assign (n:=n + 3) (v:=.ref p) SX.2 ?_⟩
  have e:ev σ [some (.ref tr),some (.ref x),some (.bool true),some (.ref p)] (.is false (.attr (.var 3) .right) (.var 1)) = some (.bool true):=by
    rw [ev_isRef (p:=x) (q:=x) (ev_attr (e:=.var 3) rfl S.node) rfl SX.1 SX.1]
    simp
  have done:∀ σ',St σ' tr cnt V c (.L x { d with limit:=gEL d (.L p { dp with limit:=gEL dp A l } A l) r } (.L p { dp with limit:=gEL dp A l } A l) r)→KV tr V σ σ' →
      W (n + 3) (.cons (.ret (.var 3)) .nil) (Fq Q) [some (.ref tr),some (.ref x),some (.bool true),some (.ref p)] σ':=fun σ' S' K=>R.ret (v:=.ref p) rfl (Fq.now (fl:=.ret (.ref p)) (k σ' S' K))
  first
    | exact R.iteT (ev_and (t:=true) rfl e) rfl (R.call rfl (turnLeft_ok (n:=n) S h0 h1 done))
    | exact R.iteF (ev_and (t:=false) rfl rfl) rfl (R.iteT (ev_and (a:=.not (.var 2)) (t:=true) rfl e) rfl (R.call rfl (turnLeft_ok (n:=n) S h0 h1 done)))
theorem turnedInward_outR {n:Nat} {Q:SV→Hp→Prop} {σ:Hp} {tr:Nat} {cnt:Int} {V:List En} {c:C} {x p:Nat} {d dp:Dt} {l r B:T} (S:St σ tr cnt V c (.R p dp (.nd x d l r) B)) (k:Q (.ref x) σ):wpFn fnD (n + 5) .turnedInward [.ref tr,.ref x,.bool false] Q σ:=by
  have SX:σ x = some (nodeO d l.root r.root (some p)):=by first | exact S.tree.2.1.1 | exact S.tree.2.2.1
  have hx:x ∉ B.ids:=by first | exact (S.ap.XS x (List.mem_append_right _ (.head _))).1 | exact (S.ap.YS x (List.mem_append_right _ (.head _))).1
  have hB:TreeAt σ B (some p):=by first | exact S.tree.2.2 | exact S.tree.2.1
  refine ⟨rfl,R.assign (n:=n + 3) (v:=.ref p) (ev_attr (e:=.var 1) rfl SX) ?_⟩
  first
    | exact R.iteF (ev_and (t:=true) rfl (ev_isSon (x:=x) hB (ev_attr (e:=.var 3) rfl S.node) rfl (by rw [SX]; rfl) hx)) rfl (R.iteF (ev_and (a:=.not (.var 2)) (t:=false) rfl rfl) rfl (R.ret (v:=.ref x) rfl (Fq.now (fl:=.ret (.ref x)) k)))
    | exact R.iteF (ev_and (t:=false) rfl rfl) rfl (R.iteF (ev_and (a:=.not (.var 2)) (t:=true) rfl (ev_isSon (x:=x) hB (ev_attr (e:=.var 3) rfl S.node) rfl (by rw [SX]; rfl) hx)) rfl (R.ret (v:=.ref x) rfl (Fq.now (fl:=.ret (.ref x)) k)))
theorem turnedInward_inR {n:Nat} {Q:SV→Hp→Prop} {σ:Hp} {tr:Nat} {cnt:Int} {V:List En} {c:C} {x p:Nat} {d dp:Dt} {l r A:T} (S:St σ tr cnt V c (.R p dp A (.R x d l r))) (h0:dp.offset = 0) (h1:d.offset = 0)
    (k:∀ σ',St σ' tr cnt V c (.R x { d with limit:=gER d (.R p { dp with limit:=gER dp A l } A l) r } (.R p { dp with limit:=gER dp A l } A l) r)→KV tr V σ σ'→Q (.ref p) σ'):wpFn fnD (n + 5) .turnedInward [.ref tr,.ref x,.bool false] Q σ:=by
  have SX:(σ x).isSome = true∧getF σ (.ref x) .parent = some (.ref p):=by
    have:∃ a b,σ x = some (nodeO d a b (some p)):=by first | exact ⟨_,_,S.tree.2.2.1⟩ | exact ⟨_,_,S.tree.2.1.1⟩
    obtain ⟨a,b,e⟩:=this
    exact ⟨by rw [e]; rfl,getF_node e⟩
  refine ⟨rfl,R.assign (n:=n + 3) (v:=.ref p) SX.2 ?_⟩
  have e:ev σ [some (.ref tr),some (.ref x),some (.bool false),some (.ref p)] (.is false (.attr (.var 3) .left) (.var 1)) = some (.bool true):=by
    rw [ev_isRef (p:=x) (q:=x) (ev_attr (e:=.var 3) rfl S.node) rfl SX.1 SX.1]
    simp
  have done:∀ σ',St σ' tr cnt V c (.R x { d with limit:=gER d (.R p { dp with limit:=gER dp A l } A l) r } (.R p { dp with limit:=gER dp A l } A l) r)→KV tr V σ σ' →
      W (n + 3) (.cons (.ret (.var 3)) .nil) (Fq Q) [some (.ref tr),some (.ref x),some (.bool false),some (.ref p)] σ':=fun σ' S' K=>R.ret (v:=.ref p) rfl (Fq.now (fl:=.ret (.ref p)) (k σ' S' K))
  first
    | exact R.iteT (ev_and (t:=true) rfl e) rfl (R.call rfl (turnRight_ok (n:=n) S h0 h1 done))
    | exact R.iteF (ev_and (t:=false) rfl rfl) rfl (R.iteT (ev_and (a:=.not (.var 2)) (t:=true) rfl e) rfl (R.call rfl (turnRight_ok (n:=n) S h0 h1 done)))
end Mine
namespace Mine
section
variable {n:Nat} {K:Fl→Lc→Hp→Prop} {σ:Hp} {tr:Nat} {cnt:Int} {V:List En} {c:C}
theorem ci_exit {Q:SV→Hp→Prop} {x:Nat} {d:Dt} {l r:T} {ρ:Lc} (S:St σ tr cnt V c (.nd x d l r)) (I:Ins c d l r) (hp:c.NR true) (hr:rd ρ 0 = some (.ref tr)) (k:∀ σ' t',St σ' tr cnt V .top t'→Ok t'→KV tr V σ σ'→Q .none σ') :
    W n (.cons (.setattr (.attr (.var 0) .root) .red (.bool false)) .nil) (Fq Q) ρ σ:=by
  obtain ⟨h,h1,h2,h3⟩:=I.done (i:=x) hp
  have S':=S.up
  obtain ⟨j,e,y,z,q⟩:=plug_nd (c:=c) (i:=x) (d:=d) (l:=l) (r:=r)
  rw [q] at S' h1 h2 h3
  exact R.set S' (d':={ e with red:=false }) rfl (ev_attrT (e:=.var 0) (t:=⟨some j,cnt⟩) hr S'.ctx) rfl (fun _=>rfl) rfl fun σ' S'' K=>Fq.now (fl:=.next) (k σ' _ S'' (Ok.black h1 h2 h3) K)
end
theorem ci_redL {n:Nat} {K:Fl→Lc→Hp→Prop} {σ:Hp} {tr:Nat} {cnt:Int} {V:List En} {c:C} {x g u p:Nat} {dg du dp:Dt} {ul ur pl pr:T} {b:Bool} (S:St σ tr cnt V (.L g dg (.nd u du ul ur) c) (.nd p dp pl pr))
    (k:∀ σ',St σ' tr cnt V c (.L g { dg with red:=true } (.nd p { dp with red:=false } pl pr) (.nd u { du with red:=false } ul ur))→KV tr V σ σ'→K .next [some (.ref tr),some (.ref g),some (.ref p),some (.ref g),some (.bool b),some (.ref u)] σ') :
    W n (.cons (.setattr (.var 2) .red (.bool false)) (.cons (.setattr (.var 5) .red (.bool false)) (.cons (.setattr (.var 3) .red (.bool true)) (.cons (.assign 1 (.var 3)) .nil)))) K [some (.ref tr),some (.ref x),some (.ref p),some (.ref g),some (.bool b),some (.ref u)] σ :=
  R.set S (d':={ dp with red:=false }) rfl rfl rfl (fun _=>rfl) rfl fun σ1 S1 K1 =>
  R.set S1.upL.downR (d':={ du with red:=false }) rfl rfl rfl (fun _=>rfl) rfl fun σ2 S2 K2 =>
  R.set S2.upR (d':={ dg with red:=true }) rfl rfl rfl (fun _=>rfl) rfl fun σ3 S3 K3=>R.assign (v:=.ref g) rfl (k σ3 S3 ((K1.trans K2).trans K3))
theorem ci_blackL {n:Nat} {K:Fl→Lc→Hp→Prop} {σ:Hp} {tr:Nat} {cnt:Int} {V:List En} {c:C} {y g z:Nat} {dg dy dz:Dt} {zl zr B unc:T} {e f:Option SV} (S:St σ tr cnt V (.L g dg unc c) (.L y dy (.nd z dz zl zr) B)) (h0:dg.offset = 0) (h1:dy.offset = 0)
    (k:∀ σ',St σ' tr cnt V c (.L y { dy with red:=false,limit:=gEL dy (.nd z dz zl zr) (.R g { dg with red:=true,limit:=gER dg unc B } unc B) } (.nd z dz zl zr) (.R g { dg with red:=true,limit:=gER dg unc B } unc B))→KV tr V σ σ' →
      K .next [some (.ref tr),some (.ref z),e,some (.ref g),some (.bool true),f] σ') :
    W (n + 4) (.cons (.setattr (.attr (.var 1) .parent) .red (.bool false)) (.cons (.setattr (.var 3) .red (.bool true)) (.cons (.ite (.var 4) (.cons (.expr (.call .turnRight (.cons (.var 0) (.cons (.var 3) .nil)))) .nil) (.cons (.expr (.call .turnLeft (.cons (.var 0) (.cons (.var 3) .nil)))) .nil)) .nil)))
      K [some (.ref tr),some (.ref z),e,some (.ref g),some (.bool true),f] σ:=by
  have Z:σ z = some (nodeO dz zl.root zr.root (some y)):=by first | exact S.tree.2.1.1 | exact S.tree.2.2.1
  refine R.set S (d':={ dy with red:=false }) rfl (ev_attr (e:=.var 1) rfl Z) rfl (fun _=>rfl) rfl fun σ1 S1 K1=>?_
  refine R.set S1.upL (d':={ dg with red:=true }) rfl rfl rfl (fun _=>rfl) rfl fun σ2 S2 K2=>?_
  have go:=turnRight_ok (n:=n + 1) (Q:=fun v σ=>W (n + 4) .nil K [some (.ref tr),some (.ref z),e,some (.ref g),some (.bool true),f] σ) S2 h0 h1 fun σ3 S3 K3=>k σ3 S3 ((K1.trans K2).trans K3)
  first
    | exact R.iteT (b:=true) rfl rfl (R.call rfl go)
    | exact R.iteF (b:=false) rfl rfl (R.call rfl go)
theorem ci_redR {n:Nat} {K:Fl→Lc→Hp→Prop} {σ:Hp} {tr:Nat} {cnt:Int} {V:List En} {c:C} {x g u p:Nat} {dg du dp:Dt} {ul ur pl pr:T} {b:Bool} (S:St σ tr cnt V (.R g dg (.nd u du ul ur) c) (.nd p dp pl pr))
    (k:∀ σ',St σ' tr cnt V c (.R g { dg with red:=true } (.nd p { dp with red:=false } pl pr) (.nd u { du with red:=false } ul ur))→KV tr V σ σ'→K .next [some (.ref tr),some (.ref g),some (.ref p),some (.ref g),some (.bool b),some (.ref u)] σ') :
    W n (.cons (.setattr (.var 2) .red (.bool false)) (.cons (.setattr (.var 5) .red (.bool false)) (.cons (.setattr (.var 3) .red (.bool true)) (.cons (.assign 1 (.var 3)) .nil)))) K [some (.ref tr),some (.ref x),some (.ref p),some (.ref g),some (.bool b),some (.ref u)] σ :=
  R.set S (d':={ dp with red:=false }) rfl rfl rfl (fun _=>rfl) rfl fun σ1 S1 K1 =>
  R.set S1.upR.downL (d':={ du with red:=false }) rfl rfl rfl (fun _=>rfl) rfl fun σ2 S2 K2 =>
  R.set S2.upL (d':={ dg with red:=true }) rfl rfl rfl (fun _=>rfl) rfl fun σ3 S3 K3=>R.assign (v:=.ref g) rfl (k σ3 S3 ((K1.trans K2).trans K3))
theorem ci_blackR {n:Nat} {K:Fl→Lc→Hp→Prop} {σ:Hp} {tr:Nat} {cnt:Int} {V:List En} {c:C} {y g z:Nat} {dg dy dz:Dt} {zl zr B unc:T} {e f:Option SV} (S:St σ tr cnt V (.R g dg unc c) (.R y dy (.nd z dz zl zr) B)) (h0:dg.offset = 0) (h1:dy.offset = 0)
    (k:∀ σ',St σ' tr cnt V c (.R y { dy with red:=false,limit:=gER dy (.nd z dz zl zr) (.L g { dg with red:=true,limit:=gEL dg unc B } unc B) } (.nd z dz zl zr) (.L g { dg with red:=true,limit:=gEL dg unc B } unc B))→KV tr V σ σ' →
      K .next [some (.ref tr),some (.ref z),e,some (.ref g),some (.bool false),f] σ') :
    W (n + 4) (.cons (.setattr (.attr (.var 1) .parent) .red (.bool false)) (.cons (.setattr (.var 3) .red (.bool true)) (.cons (.ite (.var 4) (.cons (.expr (.call .turnRight (.cons (.var 0) (.cons (.var 3) .nil)))) .nil) (.cons (.expr (.call .turnLeft (.cons (.var 0) (.cons (.var 3) .nil)))) .nil)) .nil)))
      K [some (.ref tr),some (.ref z),e,some (.ref g),some (.bool false),f] σ:=by
  have Z:σ z = some (nodeO dz zl.root zr.root (some y)):=by first | exact S.tree.2.1.1 | exact S.tree.2.2.1
  refine R.set S (d':={ dy with red:=false }) rfl (ev_attr (e:=.var 1) rfl Z) rfl (fun _=>rfl) rfl fun σ1 S1 K1=>?_
  refine R.set S1.upR (d':={ dg with red:=true }) rfl rfl rfl (fun _=>rfl) rfl fun σ2 S2 K2=>?_
  have go:=turnLeft_ok (n:=n + 1) (Q:=fun v σ=>W (n + 4) .nil K [some (.ref tr),some (.ref z),e,some (.ref g),some (.bool false),f] σ) S2 h0 h1 fun σ3 S3 K3=>k σ3 S3 ((K1.trans K2).trans K3)
  first
    | exact R.iteT (b:=true) rfl rfl (R.call rfl go)
    | exact R.iteF (b:=false) rfl rfl (R.call rfl go)
structure LS where
  c:C
  x:Nat
  d:Dt
  l:T
  r:T
noncomputable abbrev ciInv (tr:Nat) (cnt:Int) (V:List En) (σ:Hp) (s:LS) (ρ:Lc) (σ':Hp):Prop :=
  (∃ a b e f,ρ = [some (.ref tr),some (.ref s.x),a,b,e,f])∧St σ' tr cnt V s.c (.nd s.x s.d s.l s.r)∧Ins s.c s.d s.l s.r∧KV tr V σ σ'
noncomputable def ciBody:Ss:=(.cons (.ite (.call .isRed (.cons (.var 5) .nil)) (.cons (.setattr (.var 2) .red (.bool false)) (.cons (.setattr (.var 5) .red (.bool false)) (.cons (.setattr (.var 3) .red (.bool true)) (.cons (.assign 1 (.var 3)) .nil)))) (.cons (.assign 1 (.call .turnedInward (.cons (.var 0) (.cons (.var 1) (.cons (.var 4) .nil))))) (.cons (.setattr (.attr (.var 1) .parent) .red (.bool false)) (.cons (.setattr (.var 3) .red (.bool true)) (.cons (.ite (.var 4) (.cons (.expr (.call .turnRight (.cons (.var 0) (.cons (.var 3) .nil)))) .nil) (.cons (.expr (.call .turnLeft (.cons (.var 0) (.cons (.var 3) .nil)))) .nil)) .nil))))) .nil)
theorem kn {I:Lc→Hp→Prop} {Q:Fl→Lc→Hp→Prop} {ρ:Lc} {σ:Hp} (h:I ρ σ):(fun (fl:Fl) ρ σ=>match fl with | .next=>I ρ σ | .ret w=>Q (.ret w) ρ σ) .next ρ σ:=h
theorem ci_outerL {n:Nat} {Q:Fl→Lc→Hp→Prop} {σ₀ σ:Hp} {tr:Nat} {cnt:Int} {V:List En} {c:C} {x p g:Nat} {d dp dg:Dt} {l r sib unc:T} (S:St σ tr cnt V (.L p dp sib (.L g dg unc c)) (.nd x d l r)) (I:Ins (.L p dp sib (.L g dg unc c)) d l r) (pr:dp.red = true) (K0:KV tr V σ₀ σ)
    {J:Lc→Hp→Prop} (hJ:∀ (s:LS) ρ' σ',s.c.len < c.len + 2→ciInv tr cnt V σ₀ s ρ' σ'→J ρ' σ'):W (n + 4) ciBody (fun fl ρ σ=>match fl with | .next=>J ρ σ | .ret w=>Q (.ret w) ρ σ) [some (.ref tr),some (.ref x),some (.ref p),some (.ref g),some (.bool true),some (opt unc.root)] σ:=by
  have S1:=S.upL
  have gb:dg.red = false:=by
    have q:=I.cn.2.2
    rw [pr] at q
    cases e:dg.red with
    | false=>rfl
    | true=>have:=q.1 e; first | exact absurd this.1 (by decide) | exact absurd this.2 (by decide)
  have sb:sib.isRed = false:=by first | exact (I.cn.1 pr).2 | exact (I.cn.1 pr).1
  have sn:=I.cn.2.1
  have gcn:C.NR (.L g dg unc c) true:=by have:=I.cn.2.2; rw [pr] at this; exact this
  obtain ⟨h,b1,b2,sB,cB⟩:=I.bh
  rw [pr] at cB
  have tB:(T.nd x d l r).BH h:=⟨h,b1,b2,by rw [I.red]; rfl⟩
  have tN:(T.nd x d l r).NR:=⟨fun _=>⟨I.lb,I.rb⟩,I.ln,I.rn⟩
  have hu:TreeAt σ unc (some g):=S1.ctx.2.1
  have rt:C.rr (.L g dg unc c) true = false:=by rcases I.rt with q | q; cases q; exact q
  by_cases ur:unc.isRed = true
  · cases unc with
    | nil=>cases ur
    | nd u du ul ur' =>
      refine R.iteT (b:=true) (by rw [ev_redT (t:=.nd u du ul ur') (p:=some g) rfl hu]; exact congrArg _ (congrArg _ ur)) rfl (ci_redL (n:=n + 4) S1 fun σ' S' K'=>kn (Q:=Q) (hJ ⟨c,g,_,_,_⟩ _ σ' (by show c.len < _; omega) ⟨⟨_,_,_,_,rfl⟩,S',?_,K0.trans K'⟩))
      have lm:dp.limit = gEL dp (.nd x d l r) sib∧(T.nd x d l r).Lim∧sib.Lim:=⟨I.cl.1,I.lim,I.cl.2.1⟩
      first
        | exact Ins.uncleL tB sB cB gcn pr ur ⟨tN,sn⟩ I.z0.2 rt lm I.cl.2.2
        | exact Ins.uncleL sB tB cB gcn pr ur ⟨sn,tN⟩ I.z0.2 rt ⟨lm.1,lm.2.2,lm.2.1⟩ I.cl.2.2
  · have ub:unc.isRed = false:=by cases e:unc.isRed; rfl; exact absurd e ur
    refine R.iteF (b:=false) (by rw [ev_redT (t:=unc) (p:=some g) rfl hu]; exact congrArg _ (congrArg _ ub)) rfl (R.callA rfl (turnedInward_outL (n:=n) S1 ?_))
    refine ci_blackL (n:=n) S1 I.z0.2.1 I.z0.1 fun σ' S' K'=>kn (Q:=Q) (hJ ⟨_,x,d,l,r⟩ _ σ' ?_ ⟨⟨_,_,_,_,rfl⟩,S'.downL,?_,K0.trans K'⟩)
    · show c.len + 1 < _; omega
    · exact Ins.turnL I.red ⟨I.lb,I.rb⟩ ⟨I.ln,I.rn⟩ I.off ⟨b1,b2⟩ sB sb sn I.z0.1 cB gb ub gcn.2.1 (by have:=gcn.2.2; rw [gb] at this; exact this) I.z0.2 rt I.cl.2.2.2.1 I.cl.2.1 I.lim I.cl.1 I.cl.2.2.1 I.cl.2.2.2.2
theorem ci_innerL {n:Nat} {Q:Fl→Lc→Hp→Prop} {σ₀ σ:Hp} {tr:Nat} {cnt:Int} {V:List En} {c:C} {x p g:Nat} {d dp dg:Dt} {l r sib unc:T} (S:St σ tr cnt V (.R p dp sib (.L g dg unc c)) (.nd x d l r)) (I:Ins (.R p dp sib (.L g dg unc c)) d l r) (pr:dp.red = true) (K0:KV tr V σ₀ σ)
    {J:Lc→Hp→Prop} (hJ:∀ (s:LS) ρ' σ',s.c.len < c.len + 2→ciInv tr cnt V σ₀ s ρ' σ'→J ρ' σ'):W (n + 4) ciBody (fun fl ρ σ=>match fl with | .next=>J ρ σ | .ret w=>Q (.ret w) ρ σ) [some (.ref tr),some (.ref x),some (.ref p),some (.ref g),some (.bool true),some (opt unc.root)] σ:=by
  have S1:=S.upR
  have gb:dg.red = false:=by
    have q:=I.cn.2.2
    rw [pr] at q
    cases e:dg.red with
    | false=>rfl
    | true=>have:=q.1 e; first | exact absurd this.1 (by decide) | exact absurd this.2 (by decide)
  have sb:sib.isRed = false:=by first | exact (I.cn.1 pr).2 | exact (I.cn.1 pr).1
  have sn:=I.cn.2.1
  have gcn:C.NR (.L g dg unc c) true:=by have:=I.cn.2.2; rw [pr] at this; exact this
  obtain ⟨h,b1,b2,sB,cB⟩:=I.bh
  rw [pr] at cB
  have tB:(T.nd x d l r).BH h:=⟨h,b1,b2,by rw [I.red]; rfl⟩
  have tN:(T.nd x d l r).NR:=⟨fun _=>⟨I.lb,I.rb⟩,I.ln,I.rn⟩
  have hu:TreeAt σ unc (some g):=S1.ctx.2.1
  have rt:C.rr (.L g dg unc c) true = false:=by rcases I.rt with q | q; cases q; exact q
  have lm:dp.limit = gEL dp sib (.nd x d l r)∧(T.nd x d l r).Lim∧sib.Lim:=⟨I.cl.1,I.lim,I.cl.2.1⟩
  by_cases ur:unc.isRed = true
  · cases unc with
    | nil=>cases ur
    | nd u du ul ur' =>
      refine R.iteT (b:=true) (by rw [ev_redT (t:=.nd u du ul ur') (p:=some g) rfl hu]; exact congrArg _ (congrArg _ ur)) rfl (ci_redL (n:=n + 4) S1 fun σ' S' K'=>kn (Q:=Q) (hJ ⟨c,g,_,_,_⟩ _ σ' (by show c.len < _; omega) ⟨⟨_,_,_,_,rfl⟩,S',?_,K0.trans K'⟩))
      first
        | exact Ins.uncleL sB tB cB gcn pr ur ⟨sn,tN⟩ I.z0.2 rt ⟨lm.1,lm.2.2,lm.2.1⟩ I.cl.2.2
        | exact Ins.uncleL tB sB cB gcn pr ur ⟨tN,sn⟩ I.z0.2 rt lm I.cl.2.2
  · have ub:unc.isRed = false:=by cases e:unc.isRed; rfl; exact absurd e ur
    refine R.iteF (b:=false) (by rw [ev_redT (t:=unc) (p:=some g) rfl hu]; exact congrArg _ (congrArg _ ub)) rfl (R.callA rfl ?_)
    -- the sons of x,as the side asks
    obtain ⟨y,z,e,by1,bz1,yb,zb,yn,zn,yl,zl,dl⟩:∃ y z,T.nd x d l r = .L x d y z∧y.BH h∧z.BH h∧y.isRed = false∧z.isRed = false∧y.NR∧z.NR∧y.Lim∧z.Lim∧d.limit = gEL d y z:=by
      first
        | exact ⟨l,r,rfl,b1,b2,I.lb,I.rb,I.ln,I.rn,I.lim.2.1,I.lim.2.2,I.lim.1⟩
        | exact ⟨r,l,rfl,b2,b1,I.rb,I.lb,I.rn,I.ln,I.lim.2.2,I.lim.2.1,I.lim.1⟩
    rw [e] at S1
    refine turnedInward_inL (n:=n) S1 I.z0.1 I.off fun σ1 S2 K1=>?_
    refine ci_blackL (n:=n) S2 I.z0.2.1 I.off fun σ' S' K'=>kn (Q:=Q) (hJ ⟨_,p,_,_,_⟩ _ σ' ?_ ⟨⟨_,_,_,_,rfl⟩,S'.downL,?_,(K0.trans K1).trans K'⟩)
    · show c.len + 1 < _; omega
    · have pl:dp.limit = gEL dp sib (.L x d y z):=by rw [← e]; exact lm.1
      have tot:gEL d (.L p { dp with limit:=gEL dp sib y } sib y) z = dp.limit:=by
        rw [pl]
        show mxo _ _ = mxo _ _
        simp only [T.lim,I.off,I.z0.1,Int.add_zero,dl]
        first | exact rot_mx _ _ _ _ _ | exact rot_mx' _ _ _ _ _
      have gl:=I.cl.2.2.1
      have gl':dg.limit = gEL dg (.L x { d with limit:=gEL d (.L p { dp with limit:=gEL dp sib y } sib y) z } (.L p { dp with limit:=gEL dp sib y } sib y) z) unc:=by
        rw [gl]
        have:some (dp.limit + dp.offset) = some (gEL d (.L p { dp with limit:=gEL dp sib y } sib y) z + d.offset):=by rw [tot,I.off,I.z0.1]
        rw [this]
        rfl
      first
        | exact Ins.turnL (z:=p) pr ⟨sb,yb⟩ ⟨sn,yn⟩ I.z0.1 ⟨sB,by1⟩ bz1 zb zn I.off cB gb ub gcn.2.1 (by have:=gcn.2.2; rw [gb] at this; exact this) I.z0.2 rt I.cl.2.2.2.1 zl ⟨rfl,I.cl.2.1,yl⟩ rfl gl' I.cl.2.2.2.2
        | exact Ins.turnL (z:=p) pr ⟨yb,sb⟩ ⟨yn,sn⟩ I.z0.1 ⟨by1,sB⟩ bz1 zb zn I.off cB gb ub gcn.2.1 (by have:=gcn.2.2; rw [gb] at this; exact this) I.z0.2 rt I.cl.2.2.2.1 zl ⟨rfl,yl,I.cl.2.1⟩ rfl gl' I.cl.2.2.2.2
theorem ci_outerR {n:Nat} {Q:Fl→Lc→Hp→Prop} {σ₀ σ:Hp} {tr:Nat} {cnt:Int} {V:List En} {c:C} {x p g:Nat} {d dp dg:Dt} {l r sib unc:T} (S:St σ tr cnt V (.R p dp sib (.R g dg unc c)) (.nd x d l r)) (I:Ins (.R p dp sib (.R g dg unc c)) d l r) (pr:dp.red = true) (K0:KV tr V σ₀ σ)
    {J:Lc→Hp→Prop} (hJ:∀ (s:LS) ρ' σ',s.c.len < c.len + 2→ciInv tr cnt V σ₀ s ρ' σ'→J ρ' σ'):W (n + 4) ciBody (fun fl ρ σ=>match fl with | .next=>J ρ σ | .ret w=>Q (.ret w) ρ σ) [some (.ref tr),some (.ref x),some (.ref p),some (.ref g),some (.bool false),some (opt unc.root)] σ:=by
  have S1:=S.upR
  have gb:dg.red = false:=by
    have q:=I.cn.2.2
    rw [pr] at q
    cases e:dg.red with
    | false=>rfl
    | true=>have:=q.1 e; first | exact absurd this.1 (by decide) | exact absurd this.2 (by decide)
  have sb:sib.isRed = false:=by first | exact (I.cn.1 pr).2 | exact (I.cn.1 pr).1
  have sn:=I.cn.2.1
  have gcn:C.NR (.R g dg unc c) true:=by have:=I.cn.2.2; rw [pr] at this; exact this
  obtain ⟨h,b1,b2,sB,cB⟩:=I.bh
  rw [pr] at cB
  have tB:(T.nd x d l r).BH h:=⟨h,b1,b2,by rw [I.red]; rfl⟩
  have tN:(T.nd x d l r).NR:=⟨fun _=>⟨I.lb,I.rb⟩,I.ln,I.rn⟩
  have hu:TreeAt σ unc (some g):=S1.ctx.2.1
  have rt:C.rr (.R g dg unc c) true = false:=by rcases I.rt with q | q; cases q; exact q
  by_cases ur:unc.isRed = true
  · cases unc with
    | nil=>cases ur
    | nd u du ul ur' =>
      refine R.iteT (b:=true) (by rw [ev_redT (t:=.nd u du ul ur') (p:=some g) rfl hu]; exact congrArg _ (congrArg _ ur)) rfl (ci_redR (n:=n + 4) S1 fun σ' S' K'=>kn (Q:=Q) (hJ ⟨c,g,_,_,_⟩ _ σ' (by show c.len < _; omega) ⟨⟨_,_,_,_,rfl⟩,S',?_,K0.trans K'⟩))
      have lm:dp.limit = gER dp (.nd x d l r) sib∧(T.nd x d l r).Lim∧sib.Lim:=⟨I.cl.1,I.lim,I.cl.2.1⟩
      first
        | exact Ins.uncleR tB sB cB gcn pr ur ⟨tN,sn⟩ I.z0.2 rt lm I.cl.2.2
        | exact Ins.uncleR sB tB cB gcn pr ur ⟨sn,tN⟩ I.z0.2 rt ⟨lm.1,lm.2.2,lm.2.1⟩ I.cl.2.2
  · have ub:unc.isRed = false:=by cases e:unc.isRed; rfl; exact absurd e ur
    refine R.iteF (b:=false) (by rw [ev_redT (t:=unc) (p:=some g) rfl hu]; exact congrArg _ (congrArg _ ub)) rfl (R.callA rfl (turnedInward_outR (n:=n) S1 ?_))
    refine ci_blackR (n:=n) S1 I.z0.2.1 I.z0.1 fun σ' S' K'=>kn (Q:=Q) (hJ ⟨_,x,d,l,r⟩ _ σ' ?_ ⟨⟨_,_,_,_,rfl⟩,S'.downR,?_,K0.trans K'⟩)
    · show c.len + 1 < _; omega
    · exact Ins.turnR I.red ⟨I.lb,I.rb⟩ ⟨I.ln,I.rn⟩ I.off ⟨b1,b2⟩ sB sb sn I.z0.1 cB gb ub gcn.2.1 (by have:=gcn.2.2; rw [gb] at this; exact this) I.z0.2 rt I.cl.2.2.2.1 I.cl.2.1 I.lim I.cl.1 I.cl.2.2.1 I.cl.2.2.2.2
theorem ci_innerR {n:Nat} {Q:Fl→Lc→Hp→Prop} {σ₀ σ:Hp} {tr:Nat} {cnt:Int} {V:List En} {c:C} {x p g:Nat} {d dp dg:Dt} {l r sib unc:T} (S:St σ tr cnt V (.L p dp sib (.R g dg unc c)) (.nd x d l r)) (I:Ins (.L p dp sib (.R g dg unc c)) d l r) (pr:dp.red = true) (K0:KV tr V σ₀ σ)
    {J:Lc→Hp→Prop} (hJ:∀ (s:LS) ρ' σ',s.c.len < c.len + 2→ciInv tr cnt V σ₀ s ρ' σ'→J ρ' σ'):W (n + 4) ciBody (fun fl ρ σ=>match fl with | .next=>J ρ σ | .ret w=>Q (.ret w) ρ σ) [some (.ref tr),some (.ref x),some (.ref p),some (.ref g),some (.bool false),some (opt unc.root)] σ:=by
  have S1:=S.upL
  have gb:dg.red = false:=by
    have q:=I.cn.2.2
    rw [pr] at q
    cases e:dg.red with
    | false=>rfl
    | true=>have:=q.1 e; first | exact absurd this.1 (by decide) | exact absurd this.2 (by decide)
  have sb:sib.isRed = false:=by first | exact (I.cn.1 pr).2 | exact (I.cn.1 pr).1
  have sn:=I.cn.2.1
  have gcn:C.NR (.R g dg unc c) true:=by have:=I.cn.2.2; rw [pr] at this; exact this
  obtain ⟨h,b1,b2,sB,cB⟩:=I.bh
  rw [pr] at cB
  have tB:(T.nd x d l r).BH h:=⟨h,b1,b2,by rw [I.red]; rfl⟩
  have tN:(T.nd x d l r).NR:=⟨fun _=>⟨I.lb,I.rb⟩,I.ln,I.rn⟩
  have hu:TreeAt σ unc (some g):=S1.ctx.2.1
  have rt:C.rr (.R g dg unc c) true = false:=by rcases I.rt with q | q; cases q; exact q
  have lm:dp.limit = gER dp sib (.nd x d l r)∧(T.nd x d l r).Lim∧sib.Lim:=⟨I.cl.1,I.lim,I.cl.2.1⟩
  by_cases ur:unc.isRed = true
  · cases unc with
    | nil=>cases ur
    | nd u du ul ur' =>
      refine R.iteT (b:=true) (by rw [ev_redT (t:=.nd u du ul ur') (p:=some g) rfl hu]; exact congrArg _ (congrArg _ ur)) rfl (ci_redR (n:=n + 4) S1 fun σ' S' K'=>kn (Q:=Q) (hJ ⟨c,g,_,_,_⟩ _ σ' (by show c.len < _; omega) ⟨⟨_,_,_,_,rfl⟩,S',?_,K0.trans K'⟩))
      first
        | exact Ins.uncleR sB tB cB gcn pr ur ⟨sn,tN⟩ I.z0.2 rt ⟨lm.1,lm.2.2,lm.2.1⟩ I.cl.2.2
        | exact Ins.uncleR tB sB cB gcn pr ur ⟨tN,sn⟩ I.z0.2 rt lm I.cl.2.2
  · have ub:unc.isRed = false:=by cases e:unc.isRed; rfl; exact absurd e ur
    refine R.iteF (b:=false) (by rw [ev_redT (t:=unc) (p:=some g) rfl hu]; exact congrArg _ (congrArg _ ub)) rfl (R.callA rfl ?_)
    -- the sons of x,as the side asks
    obtain ⟨y,z,e,by1,bz1,yb,zb,yn,zn,yl,zl,dl⟩:∃ y z,T.nd x d l r = .R x d y z∧y.BH h∧z.BH h∧y.isRed = false∧z.isRed = false∧y.NR∧z.NR∧y.Lim∧z.Lim∧d.limit = gER d y z:=by
      first
        | exact ⟨l,r,rfl,b1,b2,I.lb,I.rb,I.ln,I.rn,I.lim.2.1,I.lim.2.2,I.lim.1⟩
        | exact ⟨r,l,rfl,b2,b1,I.rb,I.lb,I.rn,I.ln,I.lim.2.2,I.lim.2.1,I.lim.1⟩
    rw [e] at S1
    refine turnedInward_inR (n:=n) S1 I.z0.1 I.off fun σ1 S2 K1=>?_
    refine ci_blackR (n:=n) S2 I.z0.2.1 I.off fun σ' S' K'=>kn (Q:=Q) (hJ ⟨_,p,_,_,_⟩ _ σ' ?_ ⟨⟨_,_,_,_,rfl⟩,S'.downR,?_,(K0.trans K1).trans K'⟩)
    · show c.len + 1 < _; omega
    · have pl:dp.limit = gER dp sib (.R x d y z):=by rw [← e]; exact lm.1
      have tot:gER d (.R p { dp with limit:=gER dp sib y } sib y) z = dp.limit:=by
        rw [pl]
        show mxo _ _ = mxo _ _
        simp only [T.lim,I.off,I.z0.1,Int.add_zero,dl]
        first | exact rot_mx _ _ _ _ _ | exact rot_mx' _ _ _ _ _
      have gl:=I.cl.2.2.1
      have gl':dg.limit = gER dg (.R x { d with limit:=gER d (.R p { dp with limit:=gER dp sib y } sib y) z } (.R p { dp with limit:=gER dp sib y } sib y) z) unc:=by
        rw [gl]
        have:some (dp.limit + dp.offset) = some (gER d (.R p { dp with limit:=gER dp sib y } sib y) z + d.offset):=by rw [tot,I.off,I.z0.1]
        rw [this]
        rfl
      first
        | exact Ins.turnR (z:=p) pr ⟨sb,yb⟩ ⟨sn,yn⟩ I.z0.1 ⟨sB,by1⟩ bz1 zb zn I.off cB gb ub gcn.2.1 (by have:=gcn.2.2; rw [gb] at this; exact this) I.z0.2 rt I.cl.2.2.2.1 zl ⟨rfl,I.cl.2.1,yl⟩ rfl gl' I.cl.2.2.2.2
        | exact Ins.turnR (z:=p) pr ⟨yb,sb⟩ ⟨yn,sn⟩ I.z0.1 ⟨by1,sB⟩ bz1 zb zn I.off cB gb ub gcn.2.1 (by have:=gcn.2.2; rw [gb] at this; exact this) I.z0.2 rt I.cl.2.2.2.1 zl ⟨rfl,yl,I.cl.2.1⟩ rfl gl' I.cl.2.2.2.2
end Mine
namespace Mine
theorem ci_headL {n:Nat} {K:Fl→Lc→Hp→Prop} {σ:Hp} {tr:Nat} {cnt:Int} {V:List En} {c:C} {x p g:Nat} {dp dg:Dt} {pl pr unc:T} {nx:Nd} {a1 a2 a3 a4:Option SV} (S1:St σ tr cnt V (.L g dg unc c) (.nd p dp pl pr)) (hx:σ x = some (.node nx)) (hp:nx.parent = some p)
    (k:W n ciBody K [some (.ref tr),some (.ref x),some (.ref p),some (.ref g),some (.bool true),some (opt unc.root)] σ) :
    W n (.cons (.assign 2 (.attr (.var 1) .parent)) (.cons (.assign 3 (.attr (.var 2) .parent)) (.cons (.assign 4 (.is false (.attr (.var 3) .left) (.var 2))) (.cons (.assign 5 (.ite (.var 4) (.attr (.var 3) .right) (.attr (.var 3) .left))) ciBody)))) K
      [some (.ref tr),some (.ref x),a1,a2,a3,a4] σ:=by
  have hg:σ g = some (nodeL dg (some p) unc.root c.pid):=S1.ctx.1
  have hpn:=S1.node
  refine R.assign (v:=.ref p) (by rw [ev_attr (e:=.var 1) rfl hx]; show some (opt nx.parent) = _; rw [hp]; rfl) ?_
  refine R.assign (v:=.ref g) (ev_attr (e:=.var 2) rfl hpn) ?_
  refine R.assign (v:=.bool true) ?_ ?_
  · first
      | exact (ev_isRef (p:=p) (q:=p) (ev_attr (e:=.var 3) rfl hg) rfl S1.alive S1.alive).trans (by simp)
      | exact ev_isSon (t:=unc) (p:=some g) (x:=p) S1.ctx.2.1 (ev_attr (e:=.var 3) rfl hg) rfl S1.alive (fun q=>S1.apart.2.2.2 p (.inl (List.mem_append_right _ (List.mem_append_left _ q))) rfl)
  · refine R.assign (v:=opt unc.root) (ev_ite (t:=true) rfl ?_) k
    exact ev_attr (e:=.var 3) rfl hg
theorem ci_headR {n:Nat} {K:Fl→Lc→Hp→Prop} {σ:Hp} {tr:Nat} {cnt:Int} {V:List En} {c:C} {x p g:Nat} {dp dg:Dt} {pl pr unc:T} {nx:Nd} {a1 a2 a3 a4:Option SV} (S1:St σ tr cnt V (.R g dg unc c) (.nd p dp pl pr)) (hx:σ x = some (.node nx)) (hp:nx.parent = some p)
    (k:W n ciBody K [some (.ref tr),some (.ref x),some (.ref p),some (.ref g),some (.bool false),some (opt unc.root)] σ) :
    W n (.cons (.assign 2 (.attr (.var 1) .parent)) (.cons (.assign 3 (.attr (.var 2) .parent)) (.cons (.assign 4 (.is false (.attr (.var 3) .left) (.var 2))) (.cons (.assign 5 (.ite (.var 4) (.attr (.var 3) .right) (.attr (.var 3) .left))) ciBody)))) K
      [some (.ref tr),some (.ref x),a1,a2,a3,a4] σ:=by
  have hg:σ g = some (nodeR dg (some p) unc.root c.pid):=S1.ctx.1
  have hpn:=S1.node
  refine R.assign (v:=.ref p) (by rw [ev_attr (e:=.var 1) rfl hx]; show some (opt nx.parent) = _; rw [hp]; rfl) ?_
  refine R.assign (v:=.ref g) (ev_attr (e:=.var 2) rfl hpn) ?_
  refine R.assign (v:=.bool false) ?_ ?_
  · first
      | exact (ev_isRef (p:=p) (q:=p) (ev_attr (e:=.var 3) rfl hg) rfl S1.alive S1.alive).trans (by simp)
      | exact ev_isSon (t:=unc) (p:=some g) (x:=p) S1.ctx.2.1 (ev_attr (e:=.var 3) rfl hg) rfl S1.alive (fun q=>S1.apart.2.2.2 p (.inl (List.mem_append_right _ (List.mem_append_left _ q))) rfl)
  · refine R.assign (v:=opt unc.root) (ev_ite (t:=false) rfl ?_) k
    exact ev_attr (e:=.var 3) rfl hg
theorem colourInserted_ok {n:Nat} {Q:SV→Hp→Prop} {σ:Hp} {tr:Nat} {cnt:Int} {V:List En} {c:C} {x:Nat} {d:Dt} {l r:T} (S:St σ tr cnt V c (.nd x d l r)) (I:Ins c d l r)
    (k:∀ σ' t',St σ' tr cnt V .top t'→Ok t'→KV tr V σ σ'→Q .none σ'):wpFn fnD (n + 6) .colourInserted [.ref tr,.ref x] Q σ:=by
  refine ⟨rfl,R.while (n:=n + 4) (fun s:LS=>s.c.len) (ciInv tr cnt V σ) ⟨c,x,d,l,r⟩ ⟨⟨none,none,none,none,rfl⟩,S,I,Keep.refl⟩ ?_⟩
  rintro ⟨c,x,d,l,r⟩ ρ σ1 ⟨⟨a1,a2,a3,a4,rfl⟩,S,I,K0⟩
  have out:c.NR true→W (n + 4) (.cons (.setattr (.attr (.var 0) .root) .red (.bool false)) .nil) (Fq Q) [some (.ref tr),some (.ref x),a1,a2,a3,a4] σ1:=fun hp=>ci_exit S I hp rfl fun σ' t' S' O K'=>k σ' t' S' O (K0.trans K')
  have nx:=S.node
  cases c with
  | top =>
    refine ⟨false,?_,fun _=>out trivial,(fun q=>nomatch q)⟩
    exact ev_redT (t:=.nil) (p:=none) (ev_attr (e:=.var 1) rfl nx) trivial
  | L p dp sib c1 =>
    refine ⟨dp.red,ev_red (ev_attr (e:=.var 1) rfl nx) S.ctx.1,fun e=>out ⟨(fun q=>by rw [e] at q; cases q),I.cn.2⟩,fun pr J hJ=>?_⟩
    have S1:=S.upL
    cases c1 with
    | top=>rcases I.rt with q | q; cases q; rw [show C.rr (.L p dp sib .top) true = dp.red from rfl,pr] at q; cases q
    | L g dg unc c=>exact ci_headL S1 nx rfl (ci_outerL (Q:=Fq Q) S I pr K0 fun s ρ' σ' hs hI=>hJ s ρ' σ' hs hI)
    | R g dg unc c=>exact ci_headR S1 nx rfl (ci_innerR (Q:=Fq Q) S I pr K0 fun s ρ' σ' hs hI=>hJ s ρ' σ' hs hI)
  | R p dp sib c1 =>
    refine ⟨dp.red,ev_red (ev_attr (e:=.var 1) rfl nx) S.ctx.1,fun e=>out ⟨(fun q=>by rw [e] at q; cases q),I.cn.2⟩,fun pr J hJ=>?_⟩
    have S1:=S.upR
    cases c1 with
    | top=>rcases I.rt with q | q; cases q; rw [show C.rr (.R p dp sib .top) true = dp.red from rfl,pr] at q; cases q
    | L g dg unc c=>exact ci_headL S1 nx rfl (ci_innerL (Q:=Fq Q) S I pr K0 fun s ρ' σ' hs hI=>hJ s ρ' σ' hs hI)
    | R g dg unc c=>exact ci_headR S1 nx rfl (ci_outerR (Q:=Fq Q) S I pr K0 fun s ρ' σ' hs hI=>hJ s ρ' σ' hs hI)
end Mine
namespace Mine
noncomputable def T.add (o:Int):T→T
  | .nil=>.nil
  | .nd i d l r=>.nd i { d with offset:=d.offset + o } l r
noncomputable def Dt.down (d:Dt):Dt:={ d with begin_:=d.begin_ + d.offset,end_:=d.end_ + d.offset,limit:=d.limit + d.offset,offset:=0 }
theorem T.add_root (o:Int) (t:T):(t.add o).root = t.root:=by cases t <;> rfl
theorem T.add_ids (o:Int) (t:T):(t.add o).ids = t.ids:=by cases t <;> rfl
theorem T.add_red (o:Int) (t:T):(t.add o).isRed = t.isRed:=by cases t <;> rfl
theorem T.add_BH {o:Int} {t:T} {h:Nat} (q:t.BH h):(t.add o).BH h:=by cases t <;> exact q
theorem T.add_NR {o:Int} {t:T} (q:t.NR):(t.add o).NR:=by cases t <;> exact q
theorem T.add_Lim {o:Int} {t:T} (q:t.Lim):(t.add o).Lim:=by cases t <;> exact q
theorem T.add_zero (t:T):t.add 0 = t:=by
  cases t with
  | nil=>rfl
  | nd i d l r=>show T.nd i { d with offset:=d.offset + 0 } l r = _; rw [Int.add_zero]
theorem T.add_vals (o a:Int) (t:T):(t.add o).vals a = t.vals (a + o):=by
  cases t with
  | nil=>rfl
  | nd i d l r =>
    show l.vals (a + (d.offset + o)) ++ _ :: r.vals (a + (d.offset + o)) = l.vals (a + o + d.offset) ++ _ :: r.vals (a + o + d.offset)
    rw [show a + (d.offset + o) = a + o + d.offset by omega]
    rfl
theorem T.add_lim (o:Int) (t:T):(t.add o).lim = t.lim.map (· + o):=by
  cases t with
  | nil=>rfl
  | nd i d l r=>show some _ = some _; rw [show d.limit + (d.offset + o) = d.limit + d.offset + o by omega]
theorem mxo_shift (a o:Int) (x:Option Int):mxo (a + o) (x.map (· + o)) = mxo a x + o:=by
  cases x with
  | none=>rfl
  | some b =>
    show (if b + o > a + o then b + o else a + o) = (if b > a then b else a) + o
    by_cases h:b > a
    · rw [if_pos h,if_pos (Int.add_lt_add_right h o)]
    · rw [if_neg h,if_neg fun q=>h (Int.lt_of_add_lt_add_right q)]
theorem gEnd_down (d:Dt) (l r:T):gEnd d.down (l.add d.offset) (r.add d.offset) = gEnd d l r + d.offset:=by
  unfold gEnd
  rw [T.add_lim,T.add_lim]
  show mxo (mxo (d.end_ + d.offset) _) _ = _
  rw [mxo_shift,mxo_shift]
theorem Dt.down_zero {d:Dt} (h:d.offset = 0):d.down = d:=by
  cases d
  cases h
  simp [Dt.down]
theorem hd_son {n:Nat} {σ:Hp} {t:T} {p:Option Nat} {a:Nat} {nd:Nd} {K:Fl→Lc→Hp→Prop} (ht:TreeAt σ t p) (hn:t.ids.Nodup) (ha:σ a = some (.node nd))
    (k:∀ σ',TreeAt σ' (t.add nd.offset) p→(∀ z,some z ≠ t.root→σ' z = σ z)→K .next [some (.ref a),some (opt t.root)] σ') :
    wpSs (wpFn fnD (n + 1)) (.cons (.ite (.is true (.var 1) .none) (.cons (.setattr (.var 1) .offset (.bin .add (.attr (.var 1) .offset) (.attr (.var 0) .offset))) .nil) .nil) .nil) K [some (.ref a),some (opt t.root)] σ:=by
  cases t with
  | nil=>exact R.iteF (n:=n) (ev_isNone (o:=none) rfl) rfl (k σ trivial fun _ _=>rfl)
  | nd i d l r =>
    refine R.iteT (n:=n) (ev_isNone (o:=some i) rfl) rfl (R.setattr (a:=i) (w:=.int (d.offset + nd.offset)) (so':=nodeO { d with offset:=d.offset + nd.offset } l.root r.root p) (ev_add (ev_attr (e:=.var 1) rfl ht.1) (ev_attr (e:=.var 0) rfl ha)) rfl ht.1 rfl (k _ ?_ fun z hz=>upd_ne _ _ fun q=>hz (by rw [q]; rfl)))
    have e:i ∉ l.ids∧i ∉ r.ids:=⟨(nd_mid hn).1,(nd_mid hn).2.1⟩
    exact ⟨upd_same ..,ht.2.1.frame fun j hj=>upd_ne _ _ (fun q=>e.1 (q ▸ hj)),ht.2.2.frame fun j hj=>upd_ne _ _ (fun q=>e.2 (q ▸ hj))⟩
theorem T.root_mem {t:T} {i:Nat} (h:t.root = some i):i ∈ t.ids:=by
  cases t with
  | nil=>cases h
  | nd j d l r=>cases h; exact List.mem_append_right _ (.head _)
theorem handDown_ok {n:Nat} {Q:SV→Hp→Prop} {σ:Hp} {tr:Nat} {cnt:Int} {V:List En} {c:C} {i:Nat} {d:Dt} {l r:T} (S:St σ tr cnt V c (.nd i d l r))
    (k:∀ σ',St σ' tr cnt V c (.nd i d.down (l.add d.offset) (r.add d.offset))→KV tr V σ σ'→Q .none σ'):wpFn fnD (n + 2) .handDown [.ref i] Q σ:=by
  by_cases h0:d.offset = 0
  · refine handDown_zero S.node h0 (k σ ?_ Keep.refl)
    rw [h0,Dt.down_zero h0,T.add_zero,T.add_zero]
    exact S
  have nd:=S.nd'
  have dj:i ∉ l.ids∧i ∉ r.ids∧tr ≠ i∧(∀ j,j ∈ c.pre ∨ j ∈ c.post→j ≠ i)∧l.ids.Nodup∧r.ids.Nodup∧(∀ j ∈ l.ids,j ∉ r.ids∧tr ≠ j∧∀ k,k ∈ c.pre ∨ k ∈ c.post→k ≠ j)∧(∀ j ∈ r.ids,j ∉ l.ids∧tr ≠ j∧∀ k,k ∈ c.pre ∨ k ∈ c.post→k ≠ j):=by
    exact ⟨S.ap.iX,S.ap.iY,S.ap.ti,S.ap.iO,S.ap.nX,S.ap.nY,S.ap.XS,S.ap.YS⟩
  obtain ⟨d1,d2,d3,d4,d5,d6,d7,d8⟩:=dj
  have mi:=S.mem
  have ml:∀ j,l.root = some j→j ∈ tr :: V.map (·.i):=fun j hj=>by rw [S.ids]; exact .tail _ (List.mem_append_right _ (List.mem_append_left _ (List.mem_append_left _ (T.root_mem hj))))
  have mr:∀ j,r.root = some j→j ∈ tr :: V.map (·.i):=fun j hj=>by rw [S.ids]; exact .tail _ (List.mem_append_right _ (List.mem_append_left _ (List.mem_append_right _ (.tail _ (T.root_mem hj)))))
  have hi:=S.node
  refine ⟨rfl,R.iteF (n:=n) (ev_cmp (ev_attr (e:=.var 0) rfl hi) rfl) (decide_eq_false h0) ?_⟩
  refine R.setattr (a:=i) (w:=.int (d.begin_ + d.offset)) (so':=nodeO { d with begin_:=d.begin_ + d.offset } l.root r.root c.pid) (ev_add (ev_attr (e:=.var 0) rfl hi) (ev_attr (e:=.var 0) rfl hi)) rfl hi rfl ?_
  have h1:upd σ i (nodeO { d with begin_:=d.begin_ + d.offset } l.root r.root c.pid) i = _:=upd_same ..
  have f1:∀ z,z ≠ i→upd σ i (nodeO { d with begin_:=d.begin_ + d.offset } l.root r.root c.pid) z = σ z:=fun z hz=>upd_ne _ _ hz
  generalize upd σ i (nodeO { d with begin_:=d.begin_ + d.offset } l.root r.root c.pid) = σ1 at *
  refine R.setattr (a:=i) (w:=.int (d.end_ + d.offset)) (so':=nodeO { d with begin_:=d.begin_ + d.offset,end_:=d.end_ + d.offset } l.root r.root c.pid) (ev_add (ev_attr (e:=.var 0) rfl h1) (ev_attr (e:=.var 0) rfl h1)) rfl h1 rfl ?_
  have h2:upd σ1 i (nodeO { d with begin_:=d.begin_ + d.offset,end_:=d.end_ + d.offset } l.root r.root c.pid) i = _:=upd_same ..
  have f2:∀ z,z ≠ i→upd σ1 i (nodeO { d with begin_:=d.begin_ + d.offset,end_:=d.end_ + d.offset } l.root r.root c.pid) z = σ z:=fun z hz=>(upd_ne _ _ hz).trans (f1 z hz)
  generalize upd σ1 i (nodeO { d with begin_:=d.begin_ + d.offset,end_:=d.end_ + d.offset } l.root r.root c.pid) = σ2 at *
  refine R.setattr (a:=i) (w:=.int (d.limit + d.offset)) (so':=nodeO { d.down with offset:=d.offset } l.root r.root c.pid) (ev_add (ev_attr (e:=.var 0) rfl h2) (ev_attr (e:=.var 0) rfl h2)) rfl h2 rfl ?_
  have h3:upd σ2 i (nodeO { d.down with offset:=d.offset } l.root r.root c.pid) i = _:=upd_same ..
  have f3:∀ z,z ≠ i→upd σ2 i (nodeO { d.down with offset:=d.offset } l.root r.root c.pid) z = σ z:=fun z hz=>(upd_ne _ _ hz).trans (f2 z hz)
  generalize upd σ2 i (nodeO { d.down with offset:=d.offset } l.root r.root c.pid) = σ3 at *
  have tl:TreeAt σ3 l (some i):=S.tree.2.1.frame fun j hj=>f3 j fun q=>d1 (q ▸ hj)
  have tr3:TreeAt σ3 r (some i):=S.tree.2.2.frame fun j hj=>f3 j fun q=>d2 (q ▸ hj)
  refine ev_ok (n:=n) (ev_attr (e:=.var 0) rfl h3) (ev_ok (n:=n) (ev_attr (e:=.var 0) rfl h3) ?_)
  refine hd_son tl d5 h3 fun σ4 t4 f4=>⟨trivial,?_⟩
  have h4:σ4 i = _:=(f4 i fun q=>d1 (T.root_mem q.symm)).trans h3
  have tr4:TreeAt σ4 r (some i):=tr3.frame fun j hj=>f4 j fun q=>(d8 j hj).1 (T.root_mem q.symm)
  refine hd_son tr4 d6 h4 fun σ5 t5 f5=>⟨trivial,?_⟩
  have h5:σ5 i = _:=(f5 i fun q=>d2 (T.root_mem q.symm)).trans h4
  have t6:TreeAt σ5 (l.add d.offset) (some i):=t4.frame fun j hj=>f5 j fun q=>(d7 j (by rw [T.add_ids] at hj; exact hj)).1 (T.root_mem q.symm)
  refine R.setattr (n:=n) (a:=i) (w:=.int 0) (so':=nodeO d.down l.root r.root c.pid) rfl rfl h5 rfl (Fq.now (fl:=.next) (k _ ?_ ?_))
  · have g:∀ z,z ≠ i→some z ≠ l.root→some z ≠ r.root→upd σ5 i (nodeO d.down l.root r.root c.pid) z = σ z:=fun z a b e=>(upd_ne _ _ a).trans ((f5 z e).trans ((f4 z b).trans (f3 z a)))
    have out:∀ z,(z = tr ∨ z ∈ c.pre ∨ z ∈ c.post)→upd σ5 i (nodeO d.down l.root r.root c.pid) z = σ z:=fun z hz=>g z (fun q=>by rcases hz with hz | hz; exact d3 (hz ▸ q); exact d4 z hz q)
      (fun q=>by rcases hz with hz | hz; exact (d7 z (T.root_mem q.symm)).2.1 hz.symm; exact (d7 z (T.root_mem q.symm)).2.2 z hz rfl)
      (fun q=>by rcases hz with hz | hz; exact (d8 z (T.root_mem q.symm)).2.1 hz.symm; exact (d8 z (T.root_mem q.symm)).2.2 z hz rfl)
    refine ⟨S.ctx.frame (fun z hz=>out z (.inr hz)) (out tr (.inl rfl)),⟨?_,?_,?_⟩,S.nd,?_⟩
    · rw [T.add_root,T.add_root]; exact upd_same ..
    · exact t6.frame fun j hj=>upd_ne _ _ fun q=>d1 (by rw [T.add_ids] at hj; exact q ▸ hj)
    · exact t5.frame fun j hj=>upd_ne _ _ fun q=>d2 (by rw [T.add_ids] at hj; exact q ▸ hj)
    · rw [← S.vals]
      simp only [T.vals,T.add_vals]
      have e0:c.off + d.down.offset + d.offset = c.off + d.offset:=by show c.off + 0 + d.offset = _; omega
      rw [e0]
      have e1:d.down.en i (c.off + d.down.offset) = d.en i (c.off + d.offset):=by
        show En.mk _ _ (d.begin_ + d.offset + (c.off + 0)) (d.end_ + d.offset + (c.off + 0)) _ _ = En.mk _ _ (d.begin_ + (c.off + d.offset)) (d.end_ + (c.off + d.offset)) _ _
        congr 1 <;> omega
      rw [e1]
  · intro z o hz e
    have z1:z ≠ i:=fun q=>hz (q ▸ mi)
    have z2:some z ≠ l.root:=fun q=>hz (ml z q.symm)
    have z3:some z ≠ r.root:=fun q=>hz (mr z q.symm)
    exact ((upd_ne _ _ z1).trans ((f5 z z3).trans ((f4 z z2).trans (f3 z z1)))).trans e
theorem Lim.down {i:Nat} {d:Dt} {l r:T} (h:(T.nd i d l r).Lim):(T.nd i d.down (l.add d.offset) (r.add d.offset)).Lim :=
  ⟨by rw [gEnd_down,← h.1]; rfl,T.add_Lim h.2.1,T.add_Lim h.2.2⟩
end Mine
namespace Mine
theorem CtxAt.cnt {σ:Hp} {tr:Nat} {cnt cnt':Int}:∀ {c:C} {x:Option Nat},CtxAt σ tr cnt c x→tr ∉ c.pre→tr ∉ c.post→∀ r,σ tr = some (.tree ⟨r,cnt⟩)→CtxAt (upd σ tr (.tree ⟨r,cnt'⟩)) tr cnt' c x
  | .top,x,h,_,_,r,hr=>by
    have:some (SO.tree ⟨x,cnt⟩) = some (.tree ⟨r,cnt⟩):=h.symm.trans hr
    cases this
    exact upd_same ..
  | .L i d t c,x,⟨h,ht,hc⟩,n1,n2,r,hr=>by
    rw [C.post,List.mem_append,List.mem_cons,not_or,not_or] at n2
    exact ⟨(upd_ne _ _ (Ne.symm n2.1.1)).trans h,ht.frame fun j hj=>upd_ne _ _ fun q=>n2.1.2 (q ▸ hj),hc.cnt n1 n2.2 r hr⟩
  | .R i d t c,x,⟨h,ht,hc⟩,n1,n2,r,hr=>by
    rw [C.pre,List.mem_append,List.mem_append,List.mem_singleton,not_or,not_or] at n1
    exact ⟨(upd_ne _ _ (Ne.symm n1.2.2)).trans h,ht.frame fun j hj=>upd_ne _ _ fun q=>n1.2.1 (q ▸ hj),hc.cnt n1.1 n2 r hr⟩
theorem St.out {σ σ':Hp} {tr:Nat} {cnt:Int} {V:List En} {c:C} {t:T} (S:St σ tr cnt V c t) (h:∀ z,z ∈ tr :: V.map (·.i)→σ' z = σ z):St σ' tr cnt V c t:=by
  rw [S.ids] at h
  exact ⟨S.ctx.frame (fun j hj=>h j (List.mem_cons_of_mem _ (hj.elim (fun q=>List.mem_append_left _ q) fun q=>List.mem_append_right _ (List.mem_append_right _ q)))) (h tr (.head _)),S.tree.frame fun j hj=>h j (List.mem_cons_of_mem _ (List.mem_append_right _ (List.mem_append_left _ hj))),S.nd,S.vals⟩
theorem C.Z0_off:∀ {c:C},c.Z0→c.off = 0
  | .top,_=>rfl
  | .L i d t c,h=>by show c.off + d.offset = 0; rw [C.Z0_off h.2,h.1]; rfl
  | .R i d t c,h=>by show c.off + d.offset = 0; rw [C.Z0_off h.2,h.1]; rfl
noncomputable def Dt.of (nd:Nd):Dt:={ number:=nd.number,begin_:=nd.begin_,end_:=nd.end_,front:=nd.front,rear:=nd.rear,limit:=nd.limit,offset:=nd.offset,red:=nd.red }
noncomputable def Nd.en (i:Nat) (nd:Nd):En:=⟨i,nd.number,nd.begin_,nd.end_,nd.front,nd.rear⟩
noncomputable abbrev Srt (V:List En):Prop:=V.Pairwise fun a b=>a.b ≤ b.b
noncomputable def T.size:T→Nat
  | .nil=>0
  | .nd _ _ l r=>l.size + r.size + 1
theorem T.add_size (o:Int) (t:T):(t.add o).size = t.size:=by cases t <;> rfl
structure Dn (c:C) (s:T) (e b:Int):Prop where
  z0:c.Z0
  cn:c.NR s.isRed
  sn:s.NR
  bh:∃ h,s.BH h∧c.BH h
  rr:c.rr s.isRed = false
  cl:c.Lim (some (mxo e s.lim))
  sl:s.Lim
  pre:∀ y ∈ c.vpre,y.b < b
  post:∀ y ∈ c.vpost,b ≤ y.b
  ne:c = .top→s ≠ .nil
theorem mxo_swap (a:Int) (x y:Option Int) (e:Int):mxo (mxo (mxo a x) y) (some e) = mxo (mxo a (some (mxo e x))) y:=by
  rw [mxo_some,Int.max_comm,mxo_some a,Int.max_comm a]
  rw [show mxo (max (mxo e x) a) y = max (mxo e x) (mxo a y) from mxo_max _ _ _]
  rw [mxo_comm a x y]
  cases x with
  | none=>rfl
  | some b=>show max e (mxo _ (some b)) = max (mxo e (some b)) _; rw [mxo_some,mxo_some,Int.max_comm _ b,Int.max_assoc]
theorem mxo_swap' (a:Int) (x y:Option Int) (e:Int):mxo (mxo (mxo a x) y) (some e) = mxo (mxo a x) (some (mxo e y)):=by
  rw [mxo_comm a x y,mxo_swap,mxo_comm]
theorem pw_mid {A B:List En} {x:En} (h:Srt (A ++ x :: B)):(∀ y ∈ A,y.b ≤ x.b)∧∀ y ∈ B,x.b ≤ y.b:=by
  rw [Srt,List.pairwise_append,List.pairwise_cons] at h
  exact ⟨fun y hy=>h.2.2 y hy x (.head _),h.2.1.1⟩
noncomputable abbrev pnInv (tr x:Nat) (cnt:Int) (V:List En) (dx:Dt) (σ:Hp) (s:C × T) (ρ:Lc) (σ':Hp):Prop :=
  (∃ il,ρ = [some (.ref tr),some (.ref x),some (opt s.2.root),some (opt s.1.pid),some (.bool il)]∧(∀ i d t c,s.1 = .L i d t c→il = true)∧(∀ i d t c,s.1 = .R i d t c→il = false)) ∧
  St σ' tr cnt V s.1 s.2∧σ' x = some (nodeO dx none none none)∧Dn s.1 s.2 dx.end_ dx.begin_∧KV tr V σ σ'
theorem pn_link {n:Nat} {Q:SV→Hp→Prop} {σ₀ σ:Hp} {tr x:Nat} {cnt:Int} {V:List En} {c:C} {dx:Dt} {il:Bool} (S:St σ tr cnt V c .nil) (hx:σ x = some (nodeO dx none none none)) (hnx:x ∉ tr :: V.map (·.i)) (D:Dn c .nil dx.end_ dx.begin_) (hso:Srt V) (h0:dx.offset = 0) (hl:dx.limit = dx.end_)
    (il1:∀ i d t c',c = .L i d t c'→il = true) (il2:∀ i d t c',c = .R i d t c'→il = false) (K0:Keep (x :: tr :: V.map (·.i)) σ₀ σ)
    (k:∀ σ' t' V',St σ' tr cnt V' .top t'→Ok t'→Srt V'→V'.Perm (dx.en x 0 :: V)→Keep (x :: tr :: V.map (·.i)) σ₀ σ'→Q .none σ') :
    W (n + 5) (.cons (.setattr (.var 1) .parent (.var 3)) (.cons (.ite (.var 4) (.cons (.setattr (.var 3) .left (.var 1)) .nil) (.cons (.setattr (.var 3) .right (.var 1)) .nil)) (.cons (.setattr (.var 1) .red (.bool true)) (.cons (.expr (.call .colourInserted (.cons (.var 0) (.cons (.var 1) .nil)))) .nil))))
      (Fq Q) [some (.ref tr),some (.ref x),some .none,some (opt c.pid),some (.bool il)] σ:=by
  have hids:=S.ids
  have key:c.key tr ∈ tr :: V.map (·.i):=by
    rw [hids]
    rcases c.key_mem tr with q | q | q
    · rw [q]; exact .head _
    · exact .tail _ (List.mem_append_left _ q)
    · exact .tail _ (List.mem_append_right _ (List.mem_append_right _ q))
  have kx:c.key tr ≠ x:=fun q=>hnx (q ▸ key)
  have V0:c.vpre ++ c.vpost = V:=S.vals
  have off:=C.Z0_off D.z0
  refine R.setattr (a:=x) (w:=opt c.pid) (so':=nodeO dx none none c.pid) rfl rfl hx (by show (Nd.set _ _ _).map SO.node = _; unfold Nd.set; rw [unopt_opt]; rfl) ?_
  have S1:St (upd σ x (nodeO dx none none c.pid)) tr cnt V c .nil:=S.out fun z hz=>upd_ne _ _ fun q=>hnx (q ▸ hz)
  have x1:upd σ x (nodeO dx none none c.pid) x = _:=upd_same ..
  have K1:Keep (x :: tr :: V.map (·.i)) σ (upd σ x (nodeO dx none none c.pid)):=Keep.put (.head _)
  generalize upd σ x (nodeO dx none none c.pid) = σ1 at *
  have link:W (n + 5) (.cons (.setattr (.var 1) .red (.bool true)) (.cons (.expr (.call .colourInserted (.cons (.var 0) (.cons (.var 1) .nil)))) .nil)) (Fq Q) [some (.ref tr),some (.ref x),some .none,some (opt c.pid),some (.bool il)] (upd σ1 (c.key tr) (c.obj cnt (some x))):=by
    have x2:upd σ1 (c.key tr) (c.obj cnt (some x)) x = _:=(upd_ne _ _ (Ne.symm kx)).trans x1
    have c2:CtxAt (upd σ1 (c.key tr) (c.obj cnt (some x))) tr cnt c (some x):=S1.ctx.rechild S1.nd'
    have K2:Keep (x :: tr :: V.map (·.i)) σ1 (upd σ1 (c.key tr) (c.obj cnt (some x))):=Keep.put (.tail _ key)
    generalize upd σ1 (c.key tr) (c.obj cnt (some x)) = σ2 at *
    refine R.setattr (a:=x) (w:=.bool true) (so':=nodeO { dx with red:=true } none none c.pid) rfl rfl x2 rfl ?_
    have nx:x ∉ c.pre∧x ∉ c.post∧tr ≠ x:=by
      rw [hids] at hnx
      exact ⟨fun q=>hnx (.tail _ (List.mem_append_left _ q)),fun q=>hnx (.tail _ (List.mem_append_right _ (List.mem_append_right _ q))),fun q=>hnx (q ▸ .head _)⟩
    have perm:(c.vpre ++ dx.en x 0 :: c.vpost).Perm (dx.en x 0 :: V):=by rw [← V0]; exact List.perm_middle
    have S3:St (upd σ2 x (nodeO { dx with red:=true } none none c.pid)) tr cnt (c.vpre ++ dx.en x 0 :: c.vpost) c (.nd x { dx with red:=true } .nil .nil):=by
      refine ⟨c2.frame (fun j hj=>upd_ne _ _ fun q=>by rcases hj with hj | hj; exact nx.1 (q ▸ hj); exact nx.2.1 (q ▸ hj)) (upd_ne _ _ nx.2.2),⟨upd_same ..,trivial,trivial⟩,?_,?_⟩
      · have h1:=S.nd
        rw [List.nodup_cons] at h1 ⊢
        have p1:=perm.map (·.i)
        refine ⟨fun q=>?_,p1.nodup_iff.mpr (List.nodup_cons.mpr ⟨fun q=>hnx (.tail _ q),h1.2⟩)⟩
        rcases List.mem_cons.mp (p1.mem_iff.mp q) with q | q
        · exact nx.2.2 q
        · exact h1.1 q
      · show c.vpre ++ (([] ++ Dt.en x { dx with red:=true } (c.off + dx.offset) :: []) ++ c.vpost) = _
        rw [off,h0]
        rfl
    have so':Srt (c.vpre ++ dx.en x 0 :: c.vpost):=by
      rw [← V0,Srt,List.pairwise_append] at hso
      rw [Srt,List.pairwise_append,List.pairwise_cons]
      have eb:(dx.en x 0).b = dx.begin_:=by show dx.begin_ + 0 = _; omega
      refine ⟨hso.1,⟨fun y hy=>by rw [eb]; exact D.post y hy,hso.2.1⟩,fun y hy z hz=>?_⟩
      rcases List.mem_cons.mp hz with rfl | hz
      · rw [eb]; exact Int.le_of_lt (D.pre y hy)
      · exact hso.2.2 y hy z hz
    have cne:c ≠ .top:=fun q=>D.ne q rfl
    have I:Ins c { dx with red:=true } .nil .nil:=by
      obtain ⟨h,hh,hc⟩:=D.bh
      cases hh
      refine ⟨rfl,h0,rfl,rfl,trivial,trivial,⟨0,rfl,rfl,hc⟩,D.cn,D.z0,.inr ?_,⟨hl,trivial,trivial⟩,?_⟩
      · rw [rr_ne (b:=false) cne]; exact D.rr
      · show c.Lim (some (dx.limit + dx.offset))
        rw [h0,hl,Int.add_zero]
        exact D.cl
    refine R.call rfl (colourInserted_ok (n:=n) S3 I fun σ' t' S' O K'=>Fq.now (fl:=.next) (k σ' t' _ S' O so' perm ?_))
    refine ((K0.trans K1).trans K2).trans ((Keep.put (.head _)).trans (K'.mono fun z hz=>?_))
    rcases List.mem_cons.mp hz with rfl | hz
    · exact .tail _ (.head _)
    · rcases List.mem_cons.mp ((perm.map (·.i)).mem_iff.mp hz) with q | q
      · rw [q]; exact .head _
      · exact .tail _ (.tail _ q)
  cases c with
  | top=>exact absurd rfl (D.ne rfl)
  | L i d t c =>
    obtain rfl:=il1 _ _ _ _ rfl
    exact R.iteT (b:=true) rfl rfl (R.setattr (a:=i) (w:=.ref x) (so':=C.obj cnt (some x) (.L i d t c)) rfl rfl S1.ctx.1 rfl link)
  | R i d t c =>
    obtain rfl:=il2 _ _ _ _ rfl
    exact R.iteF (b:=false) rfl rfl (R.setattr (a:=i) (w:=.ref x) (so':=C.obj cnt (some x) (.R i d t c)) rfl rfl S1.ctx.1 rfl link)
end Mine
namespace Mine
theorem Dn.L {σ:Hp} {tr:Nat} {cnt:Int} {V:List En} {c:C} {i:Nat} {d:Dt} {l r:T} {e b:Int} (D:Dn c (.nd i d l r) e b) (so:Srt V) (d2:Dt) (hd:d2 = { d.down with limit:=mxo d.down.limit (some e) }) (S:St σ tr cnt V c (.nd i d2 (l.add d.offset) (r.add d.offset)))
    (hb:if true then b ≤ d.begin_ + d.offset else d.begin_ + d.offset < b):Dn (.L i d2 (r.add d.offset) c) (l.add d.offset) e b:=by
  obtain ⟨h,⟨k,b1,b2,hk⟩,hc⟩:=D.bh
  have off:=C.Z0_off D.z0
  have LD:=Lim.down D.sl
  have o2:d2.offset = 0:=by rw [hd]; rfl
  have r2:d2.red = d.red:=by rw [hd]; rfl
  have V1:=S.vals
  have mid:(∀ y ∈ c.vpre ++ (l.add d.offset).vals (c.off + d2.offset),y.b ≤ (d2.en i (c.off + d2.offset)).b)∧∀ y ∈ (r.add d.offset).vals (c.off + d2.offset) ++ c.vpost,(d2.en i (c.off + d2.offset)).b ≤ y.b:=by
    refine pw_mid ?_
    have:(c.vpre ++ (l.add d.offset).vals (c.off + d2.offset)) ++ d2.en i (c.off + d2.offset) :: ((r.add d.offset).vals (c.off + d2.offset) ++ c.vpost) = V:=by
      rw [← V1,T.vals]
      simp only [List.append_assoc,List.cons_append]
    rw [this]
    exact so
  have eb:(d2.en i (c.off + d2.offset)).b = d.begin_ + d.offset:=by
    show d2.begin_ + (c.off + d2.offset) = _
    rw [o2,off,hd]
    show d.begin_ + d.offset + (0 + 0) = _
    omega
  rw [eb] at mid
  refine ⟨⟨o2,D.z0⟩,⟨?_,?_,?_⟩,?_,⟨k,?_,?_,?_⟩,?_,⟨?_,?_,?_⟩,?_,?_,?_,(fun q=>nomatch q)⟩
  · intro q
    rw [r2] at q
    rw [T.add_red,T.add_red]
    exact D.sn.1 q
  · first | exact T.add_NR D.sn.2.2 | exact T.add_NR D.sn.2.1
  · rw [r2]; exact D.cn
  · first | exact T.add_NR D.sn.2.1 | exact T.add_NR D.sn.2.2
  · first | exact T.add_BH b1 | exact T.add_BH b2
  · first | exact T.add_BH b2 | exact T.add_BH b1
  · rw [r2,← hk]; exact hc
  · show c.rr d2.red = false
    rw [r2]; exact D.rr
  · have e1:=LD.1
    rw [hd]
    show mxo d.down.limit (some e) = mxo (mxo d.down.end_ _) _
    rw [e1]
    first | exact mxo_swap _ _ _ _ | exact mxo_swap' _ _ _ _
  · first | exact LD.2.2 | exact LD.2.1
  · have:=D.cl
    rw [o2,hd]
    show c.Lim (some (mxo (d.limit + d.offset) (some e) + 0))
    rw [mxo_some,Int.add_zero,Int.max_comm,← mxo_some]
    exact this
  · first | exact LD.2.1 | exact LD.2.2
  · first
      | exact D.pre
      | (intro y hy
         rcases List.mem_append.mp hy with hy | hy
         · exact D.pre y hy
         · rcases List.mem_append.mp hy with hy | hy
           · exact Int.lt_of_le_of_lt (mid.1 y (List.mem_append_right _ hy)) hb
           · rw [List.mem_singleton.mp hy,eb]; exact hb)
  · first
      | exact D.post
      | (intro y hy
         rcases List.mem_cons.mp hy with hy | hy
         · rw [hy,eb]; exact hb
         · rcases List.mem_append.mp hy with hy | hy
           · exact Int.le_trans hb (mid.2 y (List.mem_append_left _ hy))
           · exact D.post y hy)
theorem Dn.R {σ:Hp} {tr:Nat} {cnt:Int} {V:List En} {c:C} {i:Nat} {d:Dt} {l r:T} {e b:Int} (D:Dn c (.nd i d l r) e b) (so:Srt V) (d2:Dt) (hd:d2 = { d.down with limit:=mxo d.down.limit (some e) }) (S:St σ tr cnt V c (.nd i d2 (l.add d.offset) (r.add d.offset)))
    (hb:if false then b ≤ d.begin_ + d.offset else d.begin_ + d.offset < b):Dn (.R i d2 (l.add d.offset) c) (r.add d.offset) e b:=by
  obtain ⟨h,⟨k,b1,b2,hk⟩,hc⟩:=D.bh
  have off:=C.Z0_off D.z0
  have LD:=Lim.down D.sl
  have o2:d2.offset = 0:=by rw [hd]; rfl
  have r2:d2.red = d.red:=by rw [hd]; rfl
  have V1:=S.vals
  have mid:(∀ y ∈ c.vpre ++ (l.add d.offset).vals (c.off + d2.offset),y.b ≤ (d2.en i (c.off + d2.offset)).b)∧∀ y ∈ (r.add d.offset).vals (c.off + d2.offset) ++ c.vpost,(d2.en i (c.off + d2.offset)).b ≤ y.b:=by
    refine pw_mid ?_
    have:(c.vpre ++ (l.add d.offset).vals (c.off + d2.offset)) ++ d2.en i (c.off + d2.offset) :: ((r.add d.offset).vals (c.off + d2.offset) ++ c.vpost) = V:=by
      rw [← V1,T.vals]
      simp only [List.append_assoc,List.cons_append]
    rw [this]
    exact so
  have eb:(d2.en i (c.off + d2.offset)).b = d.begin_ + d.offset:=by
    show d2.begin_ + (c.off + d2.offset) = _
    rw [o2,off,hd]
    show d.begin_ + d.offset + (0 + 0) = _
    omega
  rw [eb] at mid
  refine ⟨⟨o2,D.z0⟩,⟨?_,?_,?_⟩,?_,⟨k,?_,?_,?_⟩,?_,⟨?_,?_,?_⟩,?_,?_,?_,(fun q=>nomatch q)⟩
  · intro q
    rw [r2] at q
    rw [T.add_red,T.add_red]
    exact D.sn.1 q
  · first | exact T.add_NR D.sn.2.2 | exact T.add_NR D.sn.2.1
  · rw [r2]; exact D.cn
  · first | exact T.add_NR D.sn.2.1 | exact T.add_NR D.sn.2.2
  · first | exact T.add_BH b1 | exact T.add_BH b2
  · first | exact T.add_BH b2 | exact T.add_BH b1
  · rw [r2,← hk]; exact hc
  · show c.rr d2.red = false
    rw [r2]; exact D.rr
  · have e1:=LD.1
    rw [hd]
    show mxo d.down.limit (some e) = mxo (mxo d.down.end_ _) _
    rw [e1]
    first | exact mxo_swap _ _ _ _ | exact mxo_swap' _ _ _ _
  · first | exact LD.2.2 | exact LD.2.1
  · have:=D.cl
    rw [o2,hd]
    show c.Lim (some (mxo (d.limit + d.offset) (some e) + 0))
    rw [mxo_some,Int.add_zero,Int.max_comm,← mxo_some]
    exact this
  · first | exact LD.2.1 | exact LD.2.2
  · first
      | exact D.pre
      | (intro y hy
         rcases List.mem_append.mp hy with hy | hy
         · exact D.pre y hy
         · rcases List.mem_append.mp hy with hy | hy
           · exact Int.lt_of_le_of_lt (mid.1 y (List.mem_append_right _ hy)) hb
           · rw [List.mem_singleton.mp hy,eb]; exact hb)
  · first
      | exact D.post
      | (intro y hy
         rcases List.mem_cons.mp hy with hy | hy
         · rw [hy,eb]; exact hb
         · rcases List.mem_append.mp hy with hy | hy
           · exact Int.le_trans hb (mid.2 y (List.mem_append_left _ hy))
           · exact D.post y hy)
theorem CLR {i j:Nat} {d e:Dt} {s t:T} {a b:C}:C.L i d s a ≠ .R j e t b:=fun q=>by cases q
theorem CRL {i j:Nat} {d e:Dt} {s t:T} {a b:C}:C.R i d s a ≠ .L j e t b:=fun q=>by cases q
theorem putNode_ok {n:Nat} {Q:SV→Hp→Prop} {σ:Hp} {tr x:Nat} {cnt:Int} {V:List En} {t:T} {nx:Nd} (S:St σ tr cnt V .top t) (O:Ok t) (so:Srt V) (hx:σ x = some (.node nx)) (hnx:x ∉ tr :: V.map (·.i))
    (k:∀ σ' t' V',St σ' tr (cnt + 1) V' .top t'→Ok t'→Srt V'→V'.Perm (nx.en x :: V)→Keep (x :: tr :: V.map (·.i)) σ σ'→Q .none σ'):wpFn fnD (n + 7) .putNode [.ref tr,.ref x] Q σ:=by
  have tx:tr ≠ x:=fun q=>hnx (q ▸ .head _)
  let dx:Dt:={ number:=nx.number,begin_:=nx.begin_,end_:=nx.end_,front:=nx.front,rear:=nx.rear,limit:=nx.end_,offset:=0,red:=nx.red }
  have een:dx.en x 0 = nx.en x:=by
    show En.mk x nx.number (nx.begin_ + 0) (nx.end_ + 0) _ _ = _
    rw [Int.add_zero,Int.add_zero]; rfl
  refine ⟨rfl,R.setattr (n:=n + 5) (a:=tr) (w:=.int (cnt + 1)) (so':=.tree ⟨t.root,cnt + 1⟩) (ev_add (ev_attrT (e:=.var 0) rfl S.ctx) rfl) rfl S.ctx rfl ?_⟩
  have S1:St (upd σ tr (.tree ⟨t.root,cnt + 1⟩)) tr (cnt + 1) V .top t:=by
    refine ⟨upd_same ..,S.tree.frame fun j hj=>upd_ne _ _ fun q=>?_,S.nd,S.vals⟩
    have:=S.nd'
    rw [List.nodup_cons] at this
    exact this.1 (List.mem_append_right _ (List.mem_append_left _ (q ▸ hj)))
  have x1:upd σ tr (.tree ⟨t.root,cnt + 1⟩) x = some (.node nx):=(upd_ne _ _ (Ne.symm tx)).trans hx
  have K1:Keep (x :: tr :: V.map (·.i)) σ (upd σ tr (.tree ⟨t.root,cnt + 1⟩)):=Keep.put (.tail _ (.head _))
  generalize upd σ tr (.tree ⟨t.root,cnt + 1⟩) = σ1 at *
  have five:∀ σ2,σ2 x = some (nodeO dx none none none)→(∀ z,z ≠ x→σ2 z = σ1 z)→W (n + 5) (.cons (.ite (.is false (.attr (.var 0) .root) .none) (.cons (.setattr (.var 1) .red (.bool false)) (.cons (.setattr (.var 0) .root (.var 1)) (.cons .retNone .nil))) .nil) (.cons (.assign 2 (.attr (.var 0) .root)) (.cons (.assign 3 .none) (.cons (.assign 4 (.bool false)) (.cons (.while (.is true (.var 2) .none) (.cons (.expr (.call .handDown (.cons (.var 2) .nil))) (.cons (.setattr (.var 2) .limit (.max (.attr (.var 2) .limit) (.attr (.var 1) .end_))) (.cons (.assign 3 (.var 2)) (.cons (.assign 4 (.cmp .le (.attr (.var 1) .begin_) (.attr (.var 2) .begin_))) (.cons (.assign 2 (.ite (.var 4) (.attr (.var 2) .left) (.attr (.var 2) .right))) .nil)))))) (.cons (.setattr (.var 1) .parent (.var 3)) (.cons (.ite (.var 4) (.cons (.setattr (.var 3) .left (.var 1)) .nil) (.cons (.setattr (.var 3) .right (.var 1)) .nil)) (.cons (.setattr (.var 1) .red (.bool true)) (.cons (.expr (.call .colourInserted (.cons (.var 0) (.cons (.var 1) .nil)))) .nil)))))))))
      (Fq Q) [some (.ref tr),some (.ref x),none,none,none] σ2:=by
    intro σ2 x2 f2
    have S2:St σ2 tr (cnt + 1) V .top t:=S1.out fun z hz=>f2 z fun q=>hnx (q ▸ hz)
    have K2:Keep (x :: tr :: V.map (·.i)) σ σ2:=K1.trans fun z o hz e=>(f2 z fun q=>hz (q ▸ .head _)).trans e
    cases t with
    | nil =>
      have V0:[] = V:=S.vals
      subst V0
      refine R.iteT (ev_isNone (o:=none) (ev_attrT (e:=.var 0) rfl S2.ctx)) rfl ?_
      refine R.setattr (a:=x) (w:=.bool false) (so':=nodeO { dx with red:=false } none none none) rfl rfl x2 rfl ?_
      have x3:upd σ2 x (nodeO { dx with red:=false } none none none) x = _:=upd_same ..
      have t3:upd σ2 x (nodeO { dx with red:=false } none none none) tr = some (.tree ⟨none,cnt + 1⟩):=(upd_ne _ _ tx).trans S2.ctx
      have K3:Keep (x :: tr :: ([]:List En).map (·.i)) σ2 (upd σ2 x (nodeO { dx with red:=false } none none none)):=Keep.put (.head _)
      generalize upd σ2 x (nodeO { dx with red:=false } none none none) = σ3 at *
      refine R.setattr (a:=tr) (w:=.ref x) (so':=.tree ⟨some x,cnt + 1⟩) rfl rfl t3 rfl (Fq.now (fl:=.ret .none) (k _ (.nd x { dx with red:=false } .nil .nil) [dx.en x 0] ⟨upd_same ..,⟨(upd_ne _ _ (Ne.symm tx)).trans x3,trivial,trivial⟩,?_,?_⟩ ?_ (List.pairwise_singleton _ _) ?_ ((K2.trans K3).trans (Keep.put (.tail _ (.head _))))))
      · show [tr,x].Nodup
        simp [tx]
      · rfl
      · exact ⟨⟨1,0,rfl,rfl,rfl⟩,⟨(fun q=>nomatch q),trivial,trivial⟩,rfl,⟨rfl,trivial,trivial⟩⟩
      · rw [een]
    | nd i0 d0 l0 r0 =>
      refine R.iteF (ev_isNone (o:=some i0) (ev_attrT (e:=.var 0) rfl S2.ctx)) rfl ?_
      refine R.assign (v:=.ref i0) (ev_attrT (e:=.var 0) rfl S2.ctx) (R.assign (v:=.none) rfl (R.assign (v:=.bool false) rfl ?_))
      have D0:Dn .top (.nd i0 d0 l0 r0) dx.end_ dx.begin_:=⟨trivial,trivial,O.nr,(by obtain ⟨h,q⟩:=O.bh; exact ⟨h,q,trivial⟩),O.rb,trivial,O.lim,(fun _ h=>nomatch h),(fun _ h=>nomatch h),(fun _ q=>nomatch q)⟩
      refine R.while (n:=n + 5) (fun s:C × T=>s.2.size) (pnInv tr x (cnt + 1) V dx σ2) (.top,.nd i0 d0 l0 r0) ⟨⟨false,rfl,(fun _ _ _ _ q=>nomatch q),fun _ _ _ _ _=>rfl⟩,S2,x2,D0,Keep.refl⟩ ?_
      rintro ⟨c,s⟩ ρ σ3 ⟨⟨il,rfl,i1,i2⟩,S3,x3,D,K3⟩
      have K03:Keep (x :: tr :: V.map (·.i)) σ σ3:=K2.trans (K3.mono fun z hz=>.tail _ hz)
      cases s with
      | nil =>
        refine ⟨false,ev_isNone (o:=none) rfl,fun _=>?_,(fun q=>nomatch q)⟩
        exact pn_link S3 x3 hnx D so rfl rfl i1 i2 K03 fun σ' t' V' S' O' so' p K'=>k σ' t' V' S' O' so' (by rw [← een]; exact p) K'
      | nd i d l r =>
        refine ⟨true,ev_isNone (o:=some i) rfl,(fun q=>nomatch q),fun _ J hJ=>?_⟩
        refine R.call rfl (handDown_ok (n:=n + 4) S3 fun σ4 S4 K4=>?_)
        have x4:σ4 x = some (nodeO dx none none none):=K4 x _ hnx x3
        refine R.set S4 (d':={ d.down with limit:=mxo d.down.limit (some dx.end_) }) (ev_max (ev_attr (e:=.var 2) rfl S4.node) (ev_attr (e:=.var 1) rfl x4)) rfl rfl (fun _=>rfl) rfl fun σ5 S5 K5=>?_
        have x5:σ5 x = some (nodeO dx none none none):=K5 x _ hnx x4
        refine R.assign (v:=.ref i) rfl (R.assign (v:=.bool (cmpI .le dx.begin_ (d.begin_ + d.offset))) (ev_cmp ((ev_attr (e:=.var 1) (f:=.begin_) rfl x5).trans rfl) ((ev_attr (e:=.var 2) (f:=.begin_) rfl S5.node).trans rfl)) ?_)
        by_cases q:dx.begin_ ≤ d.begin_ + d.offset
        · rw [show cmpI .le dx.begin_ (d.begin_ + d.offset) = true from decide_eq_true q]
          refine R.assign (v:=opt (l.add d.offset).root) (ev_ite (t:=true) rfl (ev_attr (e:=.var 2) rfl S5.node)) (hJ (.L i { d.down with limit:=mxo d.down.limit (some dx.end_) } (r.add d.offset) c,l.add d.offset) _ σ5 ?_ ⟨⟨true,rfl,fun _ _ _ _ _=>rfl,fun _ _ _ _ q=>absurd q CLR⟩,S5.downL,x5,?_,(K3.trans K4).trans K5⟩)
          · show (l.add d.offset).size < l.size + r.size + 1; rw [T.add_size]; omega
          · exact Dn.L D so _ rfl S5 q
        · rw [show cmpI .le dx.begin_ (d.begin_ + d.offset) = false from decide_eq_false q]
          refine R.assign (v:=opt (r.add d.offset).root) (ev_ite (t:=false) rfl (ev_attr (e:=.var 2) rfl S5.node)) (hJ (.R i { d.down with limit:=mxo d.down.limit (some dx.end_) } (l.add d.offset) c,r.add d.offset) _ σ5 ?_ ⟨⟨false,rfl,fun _ _ _ _ q=>absurd q CRL,fun _ _ _ _ _=>rfl⟩,S5.downR,x5,?_,(K3.trans K4).trans K5⟩)
          · show (r.add d.offset).size < l.size + r.size + 1; rw [T.add_size]; omega
          · exact Dn.R D so _ rfl S5 (Int.not_le.mp q)
  refine R.setattr (a:=x) (w:=.none) (so':=.node { nx with left:=none }) rfl rfl x1 rfl ?_
  have f2:∀ z,z ≠ x→upd σ1 x (.node { nx with left:=none }) z = σ1 z:=fun z hz=>upd_ne _ _ hz
  have x2:upd σ1 x (.node { nx with left:=none }) x = _:=upd_same ..
  generalize upd σ1 x (.node { nx with left:=none }) = σ2 at *
  refine R.setattr (a:=x) (w:=.none) (so':=.node { nx with left:=none,right:=none }) rfl rfl x2 rfl ?_
  have f3:∀ z,z ≠ x→upd σ2 x (.node { nx with left:=none,right:=none }) z = σ1 z:=fun z hz=>(upd_ne _ _ hz).trans (f2 z hz)
  have x3:upd σ2 x (.node { nx with left:=none,right:=none }) x = _:=upd_same ..
  generalize upd σ2 x (.node { nx with left:=none,right:=none }) = σ3 at *
  refine R.setattr (a:=x) (w:=.none) (so':=.node { nx with left:=none,right:=none,parent:=none }) rfl rfl x3 rfl ?_
  have f4:∀ z,z ≠ x→upd σ3 x (.node { nx with left:=none,right:=none,parent:=none }) z = σ1 z:=fun z hz=>(upd_ne _ _ hz).trans (f3 z hz)
  have x4:upd σ3 x (.node { nx with left:=none,right:=none,parent:=none }) x = _:=upd_same ..
  generalize upd σ3 x (.node { nx with left:=none,right:=none,parent:=none }) = σ4 at *
  refine R.setattr (a:=x) (w:=.int 0) (so':=.node { nx with left:=none,right:=none,parent:=none,offset:=0 }) rfl rfl x4 rfl ?_
  have f5:∀ z,z ≠ x→upd σ4 x (.node { nx with left:=none,right:=none,parent:=none,offset:=0 }) z = σ1 z:=fun z hz=>(upd_ne _ _ hz).trans (f4 z hz)
  have x5:upd σ4 x (.node { nx with left:=none,right:=none,parent:=none,offset:=0 }) x = _:=upd_same ..
  generalize upd σ4 x (.node { nx with left:=none,right:=none,parent:=none,offset:=0 }) = σ5 at *
  exact R.setattr (a:=x) (w:=.int nx.end_) (so':=nodeO dx none none none) ((ev_attr (e:=.var 1) (f:=.end_) rfl x5).trans rfl) rfl x5 rfl (five _ (upd_same ..) fun z hz=>(upd_ne _ _ hz).trans (f5 z hz))
end Mine
namespace Mine
noncomputable def T.Z:T→Prop
  | .nil=>True
  | .nd _ d l r=>d.offset = 0∧l.Z∧r.Z
noncomputable def C.Z:C→Prop
  | .top=>True
  | .L _ d t c=>d.offset = 0∧t.Z∧c.Z
  | .R _ d t c=>d.offset = 0∧t.Z∧c.Z
theorem plug_Z:∀ {c:C} {t:T},c.Z→t.Z→(plug c t).Z
  | .top,_,_,q=>q
  | .L i d r c,t,⟨a,b,e⟩,q=>plug_Z (c:=c) (t:=.nd i d t r) e ⟨a,q,b⟩
  | .R i d l c,t,⟨a,b,e⟩,q=>plug_Z (c:=c) (t:=.nd i d l t) e ⟨a,b,q⟩
structure OkZ (t:T):Prop extends Ok t where
  z:t.Z
structure Lt (t s:T) (d:Dt) (c:C) (h:Nat):Prop where
  tb:t.isRed = false
  tn:t.NR
  tB:t.BH h
  tl:t.Lim
  tz:t.Z
  sB:s.BH (h + 1)
  sn:s.NR
  sl:s.Lim
  sz:s.Z
  pn:d.red = true→s.isRed = false
  cB:c.BH (h + 1 + (if d.red then 0 else 1))
  cn:c.NR d.red
  cz:c.Z
  pz:d.offset = 0
  rr:c.rr d.red = false
  cl:c.Lim (some (d.limit + d.offset))
theorem BH_succ {t:T} {h:Nat} (q:t.BH (h + 1)):∃ i d l r,t = .nd i d l r:=by
  cases t with
  | nil=>cases q
  | nd i d l r=>exact ⟨i,d,l,r,rfl⟩
theorem BH_black {i:Nat} {d:Dt} {l r:T} {h:Nat} (q:(T.nd i d l r).BH (h + 1)) (b:d.red = false):l.BH h∧r.BH h:=by
  obtain ⟨k,a,e,hk⟩:=q
  rw [b] at hk
  obtain rfl:h = k:=by simpa using hk
  exact ⟨a,e⟩
theorem BH_red {i:Nat} {d:Dt} {l r:T} {h:Nat} (q:(T.nd i d l r).BH h) (b:d.red = true):l.BH h∧r.BH h:=by
  obtain ⟨k,a,e,hk⟩:=q
  rw [b] at hk
  obtain rfl:h = k:=by simpa using hk
  exact ⟨a,e⟩
theorem mkBlack {i:Nat} {d:Dt} {l r:T} {h:Nat} (a:l.BH h) (e:r.BH h) (b:d.red = false):(T.nd i d l r).BH (h + 1):=⟨h,a,e,by rw [b]; rfl⟩
theorem mkRed {i:Nat} {d:Dt} {l r:T} {h:Nat} (a:l.BH h) (e:r.BH h) (b:d.red = true):(T.nd i d l r).BH h:=⟨h,a,e,by rw [b]; rfl⟩
theorem OkZ.of {c:C} {t:T} {h:Nat} (tB:t.BH h) (cB:c.BH h) (cn:c.NR t.isRed) (tn:t.NR) (rr:c.rr t.isRed = false) (cl:c.Lim t.lim) (tl:t.Lim) (cz:c.Z) (tz:t.Z):OkZ (plug c t) :=
  ⟨⟨plug_BH cB tB,plug_NR cn tn,plug_red.trans rr,plug_Lim cl tl⟩,plug_Z cz tz⟩
section
variable {n:Nat} {σ:Hp} {tr:Nat} {cnt:Int} {V:List En}
theorem siblingOf_okL {Q:SV→Hp→Prop} {c:C} {p:Nat} {dp:Dt} {t s:T} (S:St σ tr cnt V (.L p dp s c) t) (k:Q (opt s.root) σ):wpFn fnD (n + 2) .siblingOf [.ref p,.bool true] Q σ :=
  ⟨rfl,R.ret (n:=n) (v:=opt s.root) (ev_ite (t:=true) rfl (ev_attr (e:=.var 0) rfl S.ctx.1)) (Fq.now (fl:=.ret (opt s.root)) k)⟩
theorem turnTowards_okL {Q:SV→Hp→Prop} {c:C} {A B D:T} {a b:Nat} {da db:Dt} (S:St σ tr cnt V c (.L a da A (.L b db B D))) (h0:da.offset = 0) (h1:db.offset = 0)
    (k:∀ σ',St σ' tr cnt V c (.L b { db with limit:=gEL db (.L a { da with limit:=gEL da A B } A B) D } (.L a { da with limit:=gEL da A B } A B) D)→KV tr V σ σ'→Q .none σ'):wpFn fnD (n + 5) .turnTowards [.ref tr,.ref a,.bool true] Q σ :=
  ⟨rfl,by
    have go:=turnLeft_ok (n:=n) (Q:=fun v σ=>W (n + 3) .nil (Fq Q) [some (.ref tr),some (.ref a),some (.bool true)] σ) S h0 h1 fun σ' S' K'=>Fq.now (fl:=.next) (k σ' S' K')
    first
      | exact R.iteT (n:=n + 3) (b:=true) rfl rfl (R.call rfl go)
      | exact R.iteF (n:=n + 3) (b:=false) rfl rfl (R.call rfl go)⟩
theorem siblingOf_okR {Q:SV→Hp→Prop} {c:C} {p:Nat} {dp:Dt} {t s:T} (S:St σ tr cnt V (.R p dp s c) t) (k:Q (opt s.root) σ):wpFn fnD (n + 2) .siblingOf [.ref p,.bool false] Q σ :=
  ⟨rfl,R.ret (n:=n) (v:=opt s.root) (ev_ite (t:=false) rfl (ev_attr (e:=.var 0) rfl S.ctx.1)) (Fq.now (fl:=.ret (opt s.root)) k)⟩
theorem turnTowards_okR {Q:SV→Hp→Prop} {c:C} {A B D:T} {a b:Nat} {da db:Dt} (S:St σ tr cnt V c (.R a da A (.R b db B D))) (h0:da.offset = 0) (h1:db.offset = 0)
    (k:∀ σ',St σ' tr cnt V c (.R b { db with limit:=gER db (.R a { da with limit:=gER da A B } A B) D } (.R a { da with limit:=gER da A B } A B) D)→KV tr V σ σ'→Q .none σ'):wpFn fnD (n + 5) .turnTowards [.ref tr,.ref a,.bool false] Q σ :=
  ⟨rfl,by
    have go:=turnRight_ok (n:=n) (Q:=fun v σ=>W (n + 3) .nil (Fq Q) [some (.ref tr),some (.ref a),some (.bool false)] σ) S h0 h1 fun σ' S' K'=>Fq.now (fl:=.next) (k σ' S' K')
    first
      | exact R.iteT (n:=n + 3) (b:=true) rfl rfl (R.call rfl go)
      | exact R.iteF (n:=n + 3) (b:=false) rfl rfl (R.call rfl go)⟩
end
end Mine
namespace Mine
structure Dr (c:C) (t:T) (h:Nat):Prop where
  tB:t.BH h
  cB:c.BH (h + 1)
  tn:t.NR
  cn:c.NR false
  tl:t.Lim
  cl:c.Lim t.lim
  tz:t.Z
  cz:c.Z
  rr:c.rr false = false
theorem ctx_root {σ:Hp} {tr:Nat} {cnt:Int}:∀ {c:C} {p:Nat},CtxAt σ tr cnt c (some p)→(σ p).isSome = true→∃ r,σ tr = some (.tree ⟨some r,cnt⟩)∧(σ r).isSome = true∧((c = .top∧r = p) ∨ (c ≠ .top∧(r ∈ c.pre ∨ r ∈ c.post)))
  | .top,p,h,a=>⟨p,h,a,.inl ⟨rfl,rfl⟩⟩
  | .L i d t c,p,h,_=>by
    obtain ⟨r,h1,h2,h3⟩:=ctx_root (c:=c) h.2.2 (by rw [h.1]; rfl)
    refine ⟨r,h1,h2,.inr ⟨(fun q=>nomatch q),?_⟩⟩
    rcases h3 with ⟨_,e⟩ | ⟨_,e | e⟩
    · exact .inr (List.mem_append_left _ (e ▸ .head _))
    · exact .inl e
    · exact .inr (List.mem_append_right _ e)
  | .R i d t c,p,h,_=>by
    obtain ⟨r,h1,h2,h3⟩:=ctx_root (c:=c) h.2.2 (by rw [h.1]; rfl)
    refine ⟨r,h1,h2,.inr ⟨(fun q=>nomatch q),?_⟩⟩
    rcases h3 with ⟨_,e⟩ | ⟨_,e | e⟩
    · exact .inl (List.mem_append_right _ (List.mem_append_right _ (e ▸ .head _)))
    · exact .inl (List.mem_append_left _ e)
    · exact .inr e
theorem ev_isRoot {σ:Hp} {ρ:Lc} {tr:Nat} {cnt:Int} {V:List En} {c:C} {p:Nat} {d:Dt} {l r:T} {a b:E} {neg:Bool} (S:St σ tr cnt V c (.nd p d l r)) (h1:ev σ ρ a = some (.ref p)) (h2:ev σ ρ b = some (.ref tr)) :
    (c = .top∧ev σ ρ (.is neg a (.attr b .root)) = some (.bool !neg)) ∨ (c ≠ .top∧ev σ ρ (.is neg a (.attr b .root)) = some (.bool neg)):=by
  obtain ⟨r0,e1,e2,e3⟩:=ctx_root S.ctx S.alive
  have e:=ev_isRef (neg:=neg) (q:=r0) h1 ((ev_attrT (f:=.root) h2 e1).trans rfl) S.alive e2
  rcases e3 with ⟨q,e3⟩ | ⟨q,e3⟩
  · refine .inl ⟨q,e.trans ?_⟩
    rw [e3]; simp
  · refine .inr ⟨q,e.trans ?_⟩
    have:p ≠ r0:=(S.apart.2.2.2 r0 e3).symm
    simp [this]
theorem C.NR.weak {c:C} {b:Bool} (h:c.NR b):c.NR false:=by
  cases c with
  | top=>trivial
  | L i d t c=>exact ⟨fun e=>⟨rfl,(h.1 e).2⟩,h.2⟩
  | R i d t c=>exact ⟨fun e=>⟨(h.1 e).1,rfl⟩,h.2⟩
theorem rr_false {c:C} {b:Bool} (h:c.rr b = false):c.rr false = false:=by
  cases c with
  | top=>rfl
  | L i d t c=>exact h
  | R i d t c=>exact h
noncomputable def ltBoth:Ss:=.cons (.setattr (.var 4) .red (.bool true)) (.cons (.ite (.or (.attr (.var 2) .red) (.is false (.var 2) (.attr (.var 0) .root))) (.cons (.setattr (.var 2) .red (.bool false)) (.cons (.ret .none) .nil)) .nil) (.cons (.ret (.var 2)) .nil))
noncomputable def ltFar:Ss:=.cons (.setattr (.var 4) .red (.attr (.var 2) .red)) (.cons (.setattr (.var 2) .red (.bool false)) (.cons (.setattr (.var 5) .red (.bool false)) (.cons (.expr (.call .turnTowards (.cons (.var 0) (.cons (.var 2) (.cons (.var 3) .nil))))) (.cons (.ret .none) .nil))))
noncomputable def ltRest:Ss:=.cons (.assign 5 (.ite (.var 3) (.attr (.var 4) .right) (.attr (.var 4) .left))) (.cons (.assign 6 (.ite (.var 3) (.attr (.var 4) .left) (.attr (.var 4) .right))) (.cons (.ite (.and (.not (.call .isRed (.cons (.var 5) .nil))) (.not (.call .isRed (.cons (.var 6) .nil)))) ltBoth .nil)
  (.cons (.ite (.not (.call .isRed (.cons (.var 5) .nil))) (.cons (.setattr (.var 6) .red (.bool false)) (.cons (.setattr (.var 4) .red (.bool true)) (.cons (.expr (.call .turnTowards (.cons (.var 0) (.cons (.var 4) (.cons (.not (.var 3)) .nil))))) (.cons (.assign 4 (.call .siblingOf (.cons (.var 2) (.cons (.var 3) .nil)))) (.cons (.assign 5 (.ite (.var 3) (.attr (.var 4) .right) (.attr (.var 4) .left))) .nil))))) .nil) ltFar)))
section
variable {n:Nat} {σ:Hp} {tr:Nat} {cnt:Int} {V:List En}
theorem Lt.limOfL {t:T} {d ds:Dt} {s:Nat} {B D:T} {c:C} {h:Nat} (I:Lt t (.L s ds B D) d c h) (pl:d.limit = gEL d t (.L s ds B D)) :
    mxo (mxo ds.end_ (some (mxo (mxo d.end_ t.lim) B.lim))) D.lim = d.limit:=by
  rw [pl]
  have e1:ds.limit = gEL ds B D:=I.sl.1
  have e2:ds.offset = 0:=I.sz.1
  show _ = mxo _ _
  simp only [T.lim,e1,e2,Int.add_zero]
  first
    | exact rot_mx _ _ _ _ _
    | (rw [mxo_comm d.end_ (some _)]; show _ = mxo _ (some (mxo (mxo ds.end_ D.lim) B.lim)); rw [mxo_comm ds.end_ D.lim B.lim]; exact rot_mx _ _ _ _ _)
theorem Lt.lim'L {t:T} {d ds:Dt} {s p:Nat} {B D:T} {c:C} {h:Nat} (I:Lt t (.L s ds B D) d c h) (pl:d.limit = gEL d t (.L s ds B D)) {dS dP:Dt} {D':T} (h1:dS.limit = gEL dS (.L p dP t B) D') (h2:dP.limit = gEL dP t B) (e1:dS.end_ = ds.end_) (e2:dP.end_ = d.end_) (o1:dS.offset = ds.offset) (o2:dP.offset = d.offset) (hD:D'.lim = D.lim) :
    T.lim (.L s dS (.L p dP t B) D') = some (d.limit + d.offset):=by
  have key:=I.limOfL pl
  have z1:ds.offset = 0:=I.sz.1
  have q:T.lim (.L p dP t B) = some (gEL d t B):=by
    show some (dP.limit + dP.offset) = _
    rw [h2,o2,I.pz,Int.add_zero]
    unfold gEL gEnd
    rw [e2]
  show some (dS.limit + dS.offset) = _
  rw [h1,o1,z1,I.pz,← key]
  unfold gEL gEnd
  rw [q,hD,e1]
  first
    | rfl
    | (show some (mxo (mxo ds.end_ D.lim) (some (mxo (mxo d.end_ B.lim) t.lim)) + 0) = _; rw [mxo_comm ds.end_,mxo_comm d.end_])
theorem lt_bothL {K:Fl→Lc→Hp→Prop} {c:C} {p s h:Nat} {dp ds:Dt} {t B D:T} {v x y:Option SV} (S:St σ tr cnt V (.L p dp (.L s ds B D) c) t) (I:Lt t (.L s ds B D) dp c h) (pl:dp.limit = gEL dp t (.L s ds B D)) (sb:ds.red = false) (Bb:B.isRed = false) (Db:D.isRed = false)
    (kd:∀ σ' t' ρ,St σ' tr cnt V .top t'→OkZ t'→KV tr V σ σ'→K (.ret .none) ρ σ') (ku:∀ σ' l r ρ,St σ' tr cnt V c (.nd p dp l r)→Dr c (.nd p dp l r) (h + 1)→dp.red = false→c ≠ .top→KV tr V σ σ'→K (.ret (.ref p)) ρ σ') :
    W n ltBoth K [some (.ref tr),v,some (.ref p),some (.bool true),some (.ref s),x,y] σ:=by
  have sBH:B.BH h∧D.BH h:=by have:=BH_black I.sB sb; first | exact this | exact ⟨this.2,this.1⟩
  have s2:(T.L s { ds with red:=true } B D).BH h:=by first | exact mkRed sBH.1 sBH.2 rfl | exact mkRed sBH.2 sBH.1 rfl
  have n2:(T.L s { ds with red:=true } B D).NR:=by first | exact ⟨fun _=>⟨Bb,Db⟩,I.sn.2⟩ | exact ⟨fun _=>⟨Db,Bb⟩,I.sn.2⟩
  refine R.set S.upL.downR (d':={ ds with red:=true }) rfl rfl rfl (fun _=>rfl) rfl fun σ1 S1 K1=>?_
  have S2:=S1.upR
  have pb:∀ d':Dt,d'.red = false→(T.L p d' t (.L s { ds with red:=true } B D)).BH (h + 1):=fun d' e=>by first | exact mkBlack I.tB s2 e | exact mkBlack s2 I.tB e
  have pn:∀ d':Dt,d'.red = false→(T.L p d' t (.L s { ds with red:=true } B D)).NR:=fun d' e=>by first | exact ⟨fun q=>(by rw [e] at q; cases q),I.tn,n2⟩ | exact ⟨fun q=>(by rw [e] at q; cases q),n2,I.tn⟩
  have plim:(T.L p dp t (.L s { ds with red:=true } B D)).Lim:=by first | exact ⟨pl,I.tl,I.sl⟩ | exact ⟨pl,I.sl,I.tl⟩
  have pz:(T.L p dp t (.L s { ds with red:=true } B D)).Z:=by first | exact ⟨I.pz,I.tz,I.sz⟩ | exact ⟨I.pz,I.sz,I.tz⟩
  by_cases q:dp.red = true
  · refine R.iteT (ev_or (t:=true) ((ev_attr (e:=.var 2) (f:=.red) rfl S2.node).trans (congrArg (fun b=>some (SV.bool b)) q)) rfl) rfl ?_
    refine R.set S2 (d':={ dp with red:=false }) rfl rfl rfl (fun _=>rfl) rfl fun σ2 S3 K2=>R.ret (v:=.none) rfl (kd σ2 _ _ S3.up ?_ (K1.trans K2))
    have cB:=I.cB
    have cn:=I.cn
    have rr:=I.rr
    rw [q] at cB cn rr
    exact OkZ.of (pb _ rfl) cB cn.weak (pn _ rfl) (rr_false rr) I.cl plim I.cz pz
  · have q':dp.red = false:=by cases e:dp.red; rfl; exact absurd e q
    have cB:=I.cB
    have cn:=I.cn
    have rr:=I.rr
    rw [q'] at cB cn rr
    have e0:=(ev_attr (e:=.var 2) (f:=.red) (ρ:=[some (.ref tr),v,some (.ref p),some (.bool true),some (.ref s),x,y]) rfl S2.node).trans (congrArg (fun b=>some (SV.bool b)) q')
    rcases ev_isRoot (ρ:=[some (.ref tr),v,some (.ref p),some (.bool true),some (.ref s),x,y]) (a:=.var 2) (b:=.var 0) (neg:=false) S2 rfl rfl with ⟨ct,e⟩ | ⟨ct,e⟩
    · refine R.iteT (ev_or (t:=false) e0 e) rfl ?_
      refine R.set S2 (d':={ dp with red:=false }) rfl rfl rfl (fun _=>rfl) rfl fun σ2 S3 K2=>R.ret (v:=.none) rfl (kd σ2 _ _ S3.up ?_ (K1.trans K2))
      exact OkZ.of (pb _ rfl) (by rw [ct]; trivial) cn (pn _ rfl) rr I.cl plim I.cz pz
    · refine R.iteF (ev_or (t:=false) e0 e) rfl ?_
      exact R.ret (v:=.ref p) rfl (ku σ1 _ _ _ S2 ⟨pb _ q',cB,pn _ q',cn,plim,I.cl,pz,I.cz,rr⟩ q' ct K1)
theorem lt_farL {K:Fl→Lc→Hp→Prop} {c:C} {p s h:Nat} {dp ds:Dt} {t B D:T} {v y:Option SV} (S:St σ tr cnt V (.L p dp (.L s ds B D) c) t) (I:Lt t (.L s ds B D) dp c h) (pl:dp.limit = gEL dp t (.L s ds B D)) (sb:ds.red = false) (Dr_:D.isRed = true)
    (kd:∀ σ' t' ρ,St σ' tr cnt V .top t'→OkZ t'→KV tr V σ σ'→K (.ret .none) ρ σ') :
    W (n + 4) ltFar K [some (.ref tr),v,some (.ref p),some (.bool true),some (.ref s),some (opt D.root),y] σ:=by
  cases D with
  | nil=>cases Dr_
  | nd e de el er =>
    have sBH:B.BH h∧(T.nd e de el er).BH h:=by have:=BH_black I.sB sb; first | exact this | exact ⟨this.2,this.1⟩
    have eB:=BH_red sBH.2 Dr_
    have sN:B.NR∧(T.nd e de el er).NR:=by have:=I.sn.2; first | exact this | exact ⟨this.2,this.1⟩
    have sL:B.Lim∧(T.nd e de el er).Lim:=by have:=I.sl.2; first | exact this | exact ⟨this.2,this.1⟩
    have sZ:B.Z∧(T.nd e de el er).Z:=by have:=I.sz.2; first | exact this | exact ⟨this.2,this.1⟩
    have P0:σ p = some (nodeL dp t.root (some s) c.pid):=S.ctx.1
    refine R.set S.upL.downR (d':={ ds with red:=dp.red }) (w:=.bool dp.red) ((ev_attr (e:=.var 2) (f:=.red) rfl P0).trans rfl) rfl rfl (fun _=>rfl) rfl fun σ1 S1 K1=>?_
    refine R.set S1.upR (d':={ dp with red:=false }) rfl rfl rfl (fun _=>rfl) rfl fun σ2 S2 K2=>?_
    refine R.set S2.downR.downR (d':={ de with red:=false }) rfl rfl rfl (fun _=>rfl) rfl fun σ3 S3 K3=>?_
    refine R.call rfl (turnTowards_okL (n:=n) S3.upR.upR I.pz I.sz.1 fun σ4 S4 K4=>R.ret (v:=.none) rfl (kd σ4 _ _ S4.up ?_ (((K1.trans K2).trans K3).trans K4)))
    have key:=I.limOfL pl
    refine OkZ.of (h:=h + 1 + (if dp.red then 0 else 1)) ?_ I.cB I.cn ?_ I.rr ?_ ?_ I.cz ?_
    · have e1:(T.nd e { de with red:=false } el er).BH (h + 1):=mkBlack eB.1 eB.2 rfl
      have e2:∀ m,(T.L p { dp with red:=false,limit:=m } t B).BH (h + 1):=fun m=>by first | exact mkBlack I.tB sBH.1 rfl | exact mkBlack sBH.1 I.tB rfl
      first
        | exact ⟨h + 1,e2 _,e1,rfl⟩
        | exact ⟨h + 1,e1,e2 _,rfl⟩
    · first
        | exact ⟨fun _=>⟨rfl,rfl⟩,⟨(fun q=>nomatch q),I.tn,sN.1⟩,⟨(fun q=>nomatch q),sN.2.2⟩⟩
        | exact ⟨fun _=>⟨rfl,rfl⟩,⟨(fun q=>nomatch q),sN.2.2⟩,⟨(fun q=>nomatch q),sN.1,I.tn⟩⟩
    · rw [I.lim'L pl (dS:={ ds with red:=dp.red,limit:=gEL { ds with red:=dp.red } (.L p { dp with red:=false,limit:=gEL { dp with red:=false } t B } t B) (.nd e { de with red:=false } el er) }) (dP:={ dp with red:=false,limit:=gEL { dp with red:=false } t B }) (D':=.nd e { de with red:=false } el er) rfl rfl rfl rfl rfl rfl rfl]
      exact I.cl
    · first
        | exact ⟨rfl,⟨rfl,I.tl,sL.1⟩,sL.2⟩
        | exact ⟨rfl,sL.2,⟨rfl,sL.1,I.tl⟩⟩
    · first
        | exact ⟨I.sz.1,⟨I.pz,I.tz,sZ.1⟩,sZ.2⟩
        | exact ⟨I.sz.1,sZ.2,⟨I.pz,sZ.1,I.tz⟩⟩
theorem Lt.limOfR {t:T} {d ds:Dt} {s:Nat} {B D:T} {c:C} {h:Nat} (I:Lt t (.R s ds B D) d c h) (pl:d.limit = gER d t (.R s ds B D)) :
    mxo (mxo ds.end_ (some (mxo (mxo d.end_ t.lim) B.lim))) D.lim = d.limit:=by
  rw [pl]
  have e1:ds.limit = gER ds B D:=I.sl.1
  have e2:ds.offset = 0:=I.sz.1
  show _ = mxo _ _
  simp only [T.lim,e1,e2,Int.add_zero]
  first
    | exact rot_mx _ _ _ _ _
    | (rw [mxo_comm d.end_ (some _)]; show _ = mxo _ (some (mxo (mxo ds.end_ D.lim) B.lim)); rw [mxo_comm ds.end_ D.lim B.lim]; exact rot_mx _ _ _ _ _)
theorem Lt.lim'R {t:T} {d ds:Dt} {s p:Nat} {B D:T} {c:C} {h:Nat} (I:Lt t (.R s ds B D) d c h) (pl:d.limit = gER d t (.R s ds B D)) {dS dP:Dt} {D':T} (h1:dS.limit = gER dS (.R p dP t B) D') (h2:dP.limit = gER dP t B) (e1:dS.end_ = ds.end_) (e2:dP.end_ = d.end_) (o1:dS.offset = ds.offset) (o2:dP.offset = d.offset) (hD:D'.lim = D.lim) :
    T.lim (.R s dS (.R p dP t B) D') = some (d.limit + d.offset):=by
  have key:=I.limOfR pl
  have z1:ds.offset = 0:=I.sz.1
  have q:T.lim (.R p dP t B) = some (gER d t B):=by
    show some (dP.limit + dP.offset) = _
    rw [h2,o2,I.pz,Int.add_zero]
    unfold gER gEnd
    rw [e2]
  show some (dS.limit + dS.offset) = _
  rw [h1,o1,z1,I.pz,← key]
  unfold gER gEnd
  rw [q,hD,e1]
  first
    | rfl
    | (show some (mxo (mxo ds.end_ D.lim) (some (mxo (mxo d.end_ B.lim) t.lim)) + 0) = _; rw [mxo_comm ds.end_,mxo_comm d.end_])
theorem lt_bothR {K:Fl→Lc→Hp→Prop} {c:C} {p s h:Nat} {dp ds:Dt} {t B D:T} {v x y:Option SV} (S:St σ tr cnt V (.R p dp (.R s ds B D) c) t) (I:Lt t (.R s ds B D) dp c h) (pl:dp.limit = gER dp t (.R s ds B D)) (sb:ds.red = false) (Bb:B.isRed = false) (Db:D.isRed = false)
    (kd:∀ σ' t' ρ,St σ' tr cnt V .top t'→OkZ t'→KV tr V σ σ'→K (.ret .none) ρ σ') (ku:∀ σ' l r ρ,St σ' tr cnt V c (.nd p dp l r)→Dr c (.nd p dp l r) (h + 1)→dp.red = false→c ≠ .top→KV tr V σ σ'→K (.ret (.ref p)) ρ σ') :
    W n ltBoth K [some (.ref tr),v,some (.ref p),some (.bool false),some (.ref s),x,y] σ:=by
  have sBH:B.BH h∧D.BH h:=by have:=BH_black I.sB sb; first | exact this | exact ⟨this.2,this.1⟩
  have s2:(T.R s { ds with red:=true } B D).BH h:=by first | exact mkRed sBH.1 sBH.2 rfl | exact mkRed sBH.2 sBH.1 rfl
  have n2:(T.R s { ds with red:=true } B D).NR:=by first | exact ⟨fun _=>⟨Bb,Db⟩,I.sn.2⟩ | exact ⟨fun _=>⟨Db,Bb⟩,I.sn.2⟩
  refine R.set S.upR.downL (d':={ ds with red:=true }) rfl rfl rfl (fun _=>rfl) rfl fun σ1 S1 K1=>?_
  have S2:=S1.upL
  have pb:∀ d':Dt,d'.red = false→(T.R p d' t (.R s { ds with red:=true } B D)).BH (h + 1):=fun d' e=>by first | exact mkBlack I.tB s2 e | exact mkBlack s2 I.tB e
  have pn:∀ d':Dt,d'.red = false→(T.R p d' t (.R s { ds with red:=true } B D)).NR:=fun d' e=>by first | exact ⟨fun q=>(by rw [e] at q; cases q),I.tn,n2⟩ | exact ⟨fun q=>(by rw [e] at q; cases q),n2,I.tn⟩
  have plim:(T.R p dp t (.R s { ds with red:=true } B D)).Lim:=by first | exact ⟨pl,I.tl,I.sl⟩ | exact ⟨pl,I.sl,I.tl⟩
  have pz:(T.R p dp t (.R s { ds with red:=true } B D)).Z:=by first | exact ⟨I.pz,I.tz,I.sz⟩ | exact ⟨I.pz,I.sz,I.tz⟩
  by_cases q:dp.red = true
  · refine R.iteT (ev_or (t:=true) ((ev_attr (e:=.var 2) (f:=.red) rfl S2.node).trans (congrArg (fun b=>some (SV.bool b)) q)) rfl) rfl ?_
    refine R.set S2 (d':={ dp with red:=false }) rfl rfl rfl (fun _=>rfl) rfl fun σ2 S3 K2=>R.ret (v:=.none) rfl (kd σ2 _ _ S3.up ?_ (K1.trans K2))
    have cB:=I.cB
    have cn:=I.cn
    have rr:=I.rr
    rw [q] at cB cn rr
    exact OkZ.of (pb _ rfl) cB cn.weak (pn _ rfl) (rr_false rr) I.cl plim I.cz pz
  · have q':dp.red = false:=by cases e:dp.red; rfl; exact absurd e q
    have cB:=I.cB
    have cn:=I.cn
    have rr:=I.rr
    rw [q'] at cB cn rr
    have e0:=(ev_attr (e:=.var 2) (f:=.red) (ρ:=[some (.ref tr),v,some (.ref p),some (.bool false),some (.ref s),x,y]) rfl S2.node).trans (congrArg (fun b=>some (SV.bool b)) q')
    rcases ev_isRoot (ρ:=[some (.ref tr),v,some (.ref p),some (.bool false),some (.ref s),x,y]) (a:=.var 2) (b:=.var 0) (neg:=false) S2 rfl rfl with ⟨ct,e⟩ | ⟨ct,e⟩
    · refine R.iteT (ev_or (t:=false) e0 e) rfl ?_
      refine R.set S2 (d':={ dp with red:=false }) rfl rfl rfl (fun _=>rfl) rfl fun σ2 S3 K2=>R.ret (v:=.none) rfl (kd σ2 _ _ S3.up ?_ (K1.trans K2))
      exact OkZ.of (pb _ rfl) (by rw [ct]; trivial) cn (pn _ rfl) rr I.cl plim I.cz pz
    · refine R.iteF (ev_or (t:=false) e0 e) rfl ?_
      exact R.ret (v:=.ref p) rfl (ku σ1 _ _ _ S2 ⟨pb _ q',cB,pn _ q',cn,plim,I.cl,pz,I.cz,rr⟩ q' ct K1)
theorem lt_farR {K:Fl→Lc→Hp→Prop} {c:C} {p s h:Nat} {dp ds:Dt} {t B D:T} {v y:Option SV} (S:St σ tr cnt V (.R p dp (.R s ds B D) c) t) (I:Lt t (.R s ds B D) dp c h) (pl:dp.limit = gER dp t (.R s ds B D)) (sb:ds.red = false) (Dr_:D.isRed = true)
    (kd:∀ σ' t' ρ,St σ' tr cnt V .top t'→OkZ t'→KV tr V σ σ'→K (.ret .none) ρ σ') :
    W (n + 4) ltFar K [some (.ref tr),v,some (.ref p),some (.bool false),some (.ref s),some (opt D.root),y] σ:=by
  cases D with
  | nil=>cases Dr_
  | nd e de el er =>
    have sBH:B.BH h∧(T.nd e de el er).BH h:=by have:=BH_black I.sB sb; first | exact this | exact ⟨this.2,this.1⟩
    have eB:=BH_red sBH.2 Dr_
    have sN:B.NR∧(T.nd e de el er).NR:=by have:=I.sn.2; first | exact this | exact ⟨this.2,this.1⟩
    have sL:B.Lim∧(T.nd e de el er).Lim:=by have:=I.sl.2; first | exact this | exact ⟨this.2,this.1⟩
    have sZ:B.Z∧(T.nd e de el er).Z:=by have:=I.sz.2; first | exact this | exact ⟨this.2,this.1⟩
    have P0:σ p = some (nodeR dp t.root (some s) c.pid):=S.ctx.1
    refine R.set S.upR.downL (d':={ ds with red:=dp.red }) (w:=.bool dp.red) ((ev_attr (e:=.var 2) (f:=.red) rfl P0).trans rfl) rfl rfl (fun _=>rfl) rfl fun σ1 S1 K1=>?_
    refine R.set S1.upL (d':={ dp with red:=false }) rfl rfl rfl (fun _=>rfl) rfl fun σ2 S2 K2=>?_
    refine R.set S2.downL.downL (d':={ de with red:=false }) rfl rfl rfl (fun _=>rfl) rfl fun σ3 S3 K3=>?_
    refine R.call rfl (turnTowards_okR (n:=n) S3.upL.upL I.pz I.sz.1 fun σ4 S4 K4=>R.ret (v:=.none) rfl (kd σ4 _ _ S4.up ?_ (((K1.trans K2).trans K3).trans K4)))
    have key:=I.limOfR pl
    refine OkZ.of (h:=h + 1 + (if dp.red then 0 else 1)) ?_ I.cB I.cn ?_ I.rr ?_ ?_ I.cz ?_
    · have e1:(T.nd e { de with red:=false } el er).BH (h + 1):=mkBlack eB.1 eB.2 rfl
      have e2:∀ m,(T.R p { dp with red:=false,limit:=m } t B).BH (h + 1):=fun m=>by first | exact mkBlack I.tB sBH.1 rfl | exact mkBlack sBH.1 I.tB rfl
      first
        | exact ⟨h + 1,e2 _,e1,rfl⟩
        | exact ⟨h + 1,e1,e2 _,rfl⟩
    · first
        | exact ⟨fun _=>⟨rfl,rfl⟩,⟨(fun q=>nomatch q),I.tn,sN.1⟩,⟨(fun q=>nomatch q),sN.2.2⟩⟩
        | exact ⟨fun _=>⟨rfl,rfl⟩,⟨(fun q=>nomatch q),sN.2.2⟩,⟨(fun q=>nomatch q),sN.1,I.tn⟩⟩
    · rw [I.lim'R pl (dS:={ ds with red:=dp.red,limit:=gER { ds with red:=dp.red } (.R p { dp with red:=false,limit:=gER { dp with red:=false } t B } t B) (.nd e { de with red:=false } el er) }) (dP:={ dp with red:=false,limit:=gER { dp with red:=false } t B }) (D':=.nd e { de with red:=false } el er) rfl rfl rfl rfl rfl rfl rfl]
      exact I.cl
    · first
        | exact ⟨rfl,⟨rfl,I.tl,sL.1⟩,sL.2⟩
        | exact ⟨rfl,sL.2,⟨rfl,sL.1,I.tl⟩⟩
    · first
        | exact ⟨I.sz.1,⟨I.pz,I.tz,sZ.1⟩,sZ.2⟩
        | exact ⟨I.sz.1,sZ.2,⟨I.pz,sZ.1,I.tz⟩⟩
end
end Mine
namespace Mine
section
variable {n:Nat} {σ:Hp} {tr:Nat} {cnt:Int} {V:List En}
theorem nred {t:T} (h:¬ t.isRed = true):t.isRed = false:=by cases e:t.isRed; rfl; exact absurd e h
theorem lt_restL {Q:SV→Hp→Prop} {c:C} {p s h:Nat} {dp ds:Dt} {t B D:T} {v x y:Option SV} (S:St σ tr cnt V (.L p dp (.L s ds B D) c) t) (I:Lt t (.L s ds B D) dp c h) (pl:dp.limit = gEL dp t (.L s ds B D)) (sb:ds.red = false)
    (kd:∀ σ' t',St σ' tr cnt V .top t'→OkZ t'→KV tr V σ σ'→Q .none σ') (ku:∀ σ' l r,St σ' tr cnt V c (.nd p dp l r)→Dr c (.nd p dp l r) (h + 1)→dp.red = false→c ≠ .top→KV tr V σ σ'→Q (.ref p) σ') :
    W (n + 4) ltRest (Fq Q) [some (.ref tr),v,some (.ref p),some (.bool true),some (.ref s),x,y] σ:=by
  have hs:TreeAt σ (.L s ds B D) (some p):=S.ctx.2.1
  have tB:TreeAt σ B (some s)∧TreeAt σ D (some s):=by have:=hs.2; first | exact this | exact ⟨this.2,this.1⟩
  refine R.assign (v:=opt D.root) (ev_ite (t:=true) rfl (ev_attr (e:=.var 4) rfl hs.1)) ?_
  refine R.assign (v:=opt B.root) (ev_ite (t:=true) rfl (ev_attr (e:=.var 4) rfl hs.1)) ?_
  by_cases Dr_:D.isRed = true
  · refine R.iteF (b:=false) (ev_and (t:=false) ((ev_not (ev_redT (t:=D) (p:=some s) rfl tB.2)).trans (congrArg (fun b=>some (SV.bool !b)) Dr_)) rfl) rfl ?_
    refine R.iteF (b:=false) ((ev_not (ev_redT (t:=D) (p:=some s) rfl tB.2)).trans (congrArg (fun b=>some (SV.bool !b)) Dr_)) rfl ?_
    exact lt_farL (n:=n) S I pl sb Dr_ fun σ' t' ρ S' O K'=>Fq.now (fl:=.ret .none) (kd σ' t' S' O K')
  have Db:=nred Dr_
  by_cases Br:B.isRed = true
  · refine R.iteF (b:=false) (ev_and (t:=true) ((ev_not (ev_redT (t:=D) (p:=some s) rfl tB.2)).trans (congrArg (fun b=>some (SV.bool !b)) Db)) ((ev_not (ev_redT (t:=B) (p:=some s) rfl tB.1)).trans (congrArg (fun b=>some (SV.bool !b)) Br))) rfl ?_
    refine R.iteT (b:=true) ((ev_not (ev_redT (t:=D) (p:=some s) rfl tB.2)).trans (congrArg (fun b=>some (SV.bool !b)) Db)) rfl ?_
    have sBH:B.BH h∧D.BH h:=by have:=BH_black I.sB sb; first | exact this | exact ⟨this.2,this.1⟩
    have sN:B.NR∧D.NR:=by have:=I.sn.2; first | exact this | exact ⟨this.2,this.1⟩
    have sL:B.Lim∧D.Lim:=by have:=I.sl.2; first | exact this | exact ⟨this.2,this.1⟩
    have sZ:B.Z∧D.Z:=by have:=I.sz.2; first | exact this | exact ⟨this.2,this.1⟩
    obtain ⟨i,di,e',f',e⟩:∃ i di e f,B = .R i di e f:=by
      cases B with
      | nil=>cases Br
      | nd i di l r=>first | exact ⟨i,di,r,l,rfl⟩ | exact ⟨i,di,l,r,rfl⟩
    subst e
    have iB:e'.BH h∧f'.BH h:=by have:=BH_red sBH.1 Br; first | exact this | exact ⟨this.2,this.1⟩
    have iN:e'.NR∧f'.NR:=by have:=sN.1.2; first | exact this | exact ⟨this.2,this.1⟩
    have ib:e'.isRed = false∧f'.isRed = false:=by have:=sN.1.1 Br; first | exact this | exact ⟨this.2,this.1⟩
    have iL:e'.Lim∧f'.Lim:=by have:=sL.1.2; first | exact this | exact ⟨this.2,this.1⟩
    have iZ:e'.Z∧f'.Z:=by have:=sZ.1.2; first | exact this | exact ⟨this.2,this.1⟩
    refine R.set S.upL.downR.downL (d':={ di with red:=false }) rfl rfl rfl (fun _=>rfl) rfl fun σ1 S1 K1=>?_
    refine R.set S1.upL (d':={ ds with red:=true }) rfl rfl rfl (fun _=>rfl) rfl fun σ2 S2 K2=>?_
    refine R.call rfl (turnTowards_okR (n:=n) (A:=D) (B:=e') (D:=f') S2 I.sz.1 sZ.1.1 fun σ3 S3 K3=>?_)
    refine R.callA rfl (siblingOf_okL (n:=n + 3) S3.upR.downL ?_)
    have S4:=S3.upR.downL
    have hi:=S4.ctx.2.1
    refine R.assign (v:=.ref s) (ev_ite (t:=true) rfl (ev_attr (e:=.var 4) rfl hi.1)) ?_
    have KK:=(K1.trans K2).trans K3
    have key:gER { di with red:=false } (.R s { ds with red:=true,limit:=gER { ds with red:=true } D e' } D e') f' = ds.limit:=by
      have e1:ds.limit = gEL ds (.R i di e' f') D:=I.sl.1
      have e2:di.limit = gER di e' f':=sL.1.1
      rw [e1]
      show mxo (mxo _ _) _ = mxo (mxo _ _) _
      have z1:ds.offset = 0:=I.sz.1
      have z2:di.offset = 0:=sZ.1.1
      unfold gER gEL gEnd at *
      show mxo (mxo di.end_ _) _ = mxo (mxo ds.end_ _) _
      first
        | (show mxo (mxo di.end_ f'.lim) (some (mxo (mxo ds.end_ e'.lim) D.lim + ds.offset)) = mxo (mxo ds.end_ (some (di.limit + di.offset))) D.lim
           rw [z1,z2,Int.add_zero,Int.add_zero,e2]
           exact rot_mx' _ _ _ _ _)
        | (show mxo (mxo di.end_ (some (mxo (mxo ds.end_ D.lim) e'.lim + ds.offset))) f'.lim = mxo (mxo ds.end_ D.lim) (some (di.limit + di.offset))
           rw [z1,z2,Int.add_zero,Int.add_zero,e2]
           exact rot_mx _ _ _ _ _)
    refine lt_farL (n:=n) S4 ⟨I.tb,I.tn,I.tB,I.tl,I.tz,?_,?_,?_,?_,(fun _=>rfl),I.cB,I.cn,I.cz,I.pz,I.rr,I.cl⟩ ?_ rfl rfl fun σ' t' ρ S' O K'=>Fq.now (fl:=.ret .none) (kd σ' t' S' O (KK.trans K'))
    · have q:(T.R s { ds with red:=true,limit:=gER { ds with red:=true } D e' } D e').BH h:=by first | exact mkRed sBH.2 iB.1 rfl | exact mkRed iB.1 sBH.2 rfl
      first | exact mkBlack iB.2 q rfl | exact mkBlack q iB.2 rfl
    · have q:(T.R s { ds with red:=true,limit:=gER { ds with red:=true } D e' } D e').NR:=by first | exact ⟨fun _=>⟨ib.1,Db⟩,iN.1,sN.2⟩ | exact ⟨fun _=>⟨Db,ib.1⟩,sN.2,iN.1⟩
      first | exact ⟨(fun q=>nomatch q),iN.2,q⟩ | exact ⟨(fun q=>nomatch q),q,iN.2⟩
    · have q:(T.R s { ds with red:=true,limit:=gER { ds with red:=true } D e' } D e').Lim:=by first | exact ⟨rfl,iL.1,sL.2⟩ | exact ⟨rfl,sL.2,iL.1⟩
      first | exact ⟨rfl,iL.2,q⟩ | exact ⟨rfl,q,iL.2⟩
    · have q:(T.R s { ds with red:=true,limit:=gER { ds with red:=true } D e' } D e').Z:=by first | exact ⟨I.sz.1,iZ.1,sZ.2⟩ | exact ⟨I.sz.1,sZ.2,iZ.1⟩
      first | exact ⟨sZ.1.1,iZ.2,q⟩ | exact ⟨sZ.1.1,q,iZ.2⟩
    · rw [pl]
      have z1:ds.offset = 0:=I.sz.1
      have z2:di.offset = 0:=sZ.1.1
      have q:T.lim (.L s ds (.R i di e' f') D) = T.lim (.R i { di with red:=false,limit:=gER { di with red:=false } (.R s { ds with red:=true,limit:=gER { ds with red:=true } D e' } D e') f' } (.R s { ds with red:=true,limit:=gER { ds with red:=true } D e' } D e') f'):=by
        show some (ds.limit + ds.offset) = some (gER { di with red:=false } (.R s { ds with red:=true,limit:=gER { ds with red:=true } D e' } D e') f' + di.offset)
        rw [key,z1,z2]
      unfold gEL gEnd
      rw [q]
  · have Bb:=nred Br
    refine R.iteT (b:=true) (ev_and (t:=true) ((ev_not (ev_redT (t:=D) (p:=some s) rfl tB.2)).trans (congrArg (fun b=>some (SV.bool !b)) Db)) ((ev_not (ev_redT (t:=B) (p:=some s) rfl tB.1)).trans (congrArg (fun b=>some (SV.bool !b)) Bb))) rfl ?_
    unfold W
    rw [wpSs_app]
    exact lt_bothL (n:=n + 4) S I pl sb Bb Db (fun σ' t' ρ S' O K'=>Fq.now (fl:=.ret .none) (kd σ' t' S' O K')) (fun σ' l r ρ S' D' q ct K'=>Fq.now (fl:=.ret (.ref p)) (ku σ' l r S' D' q ct K'))
theorem lightened_okL {Q:SV→Hp→Prop} {c:C} {p h:Nat} {dp:Dt} {t sib:T} {v:SV} (S:St σ tr cnt V (.L p dp sib c) t) (I:Lt t sib dp c h) (pl:dp.limit = gEL dp t sib)
    (kd:∀ σ' t',St σ' tr cnt V .top t'→OkZ t'→KV tr V σ σ'→Q .none σ') (ku:∀ σ' l r,St σ' tr cnt V c (.nd p dp l r)→Dr c (.nd p dp l r) (h + 1)→dp.red = false→c ≠ .top→KV tr V σ σ'→Q (.ref p) σ') :
    wpFn fnD (n + 6) .lightened [.ref tr,v,.ref p,.bool true] Q σ:=by
  obtain ⟨s,ds,B,D,e⟩:∃ s ds B D,sib = .L s ds B D:=by
    obtain ⟨i,d,l,r,e⟩:=BH_succ I.sB
    first | exact ⟨i,d,l,r,e⟩ | exact ⟨i,d,r,l,e⟩
  subst e
  refine ⟨rfl,R.callA (n:=n + 4) rfl (siblingOf_okL (n:=n + 3) S ?_)⟩
  have hs:TreeAt σ (.L s ds B D) (some p):=S.ctx.2.1
  by_cases sr:ds.red = true
  · refine R.iteT (b:=true) ((ev_redT (t:=.L s ds B D) (p:=some p) rfl hs).trans (congrArg (fun b=>some (SV.bool b)) sr)) rfl ?_
    have pb:dp.red = false:=by
      cases e:dp.red with
      | false=>rfl
      | true=>have q:(T.L s ds B D).isRed = false:=I.pn e; rw [show (T.L s ds B D).isRed = ds.red from rfl,sr] at q; cases q
    have sBH:B.BH (h + 1)∧D.BH (h + 1):=by have:=BH_red I.sB sr; first | exact this | exact ⟨this.2,this.1⟩
    have sN:B.NR∧D.NR:=by have:=I.sn.2; first | exact this | exact ⟨this.2,this.1⟩
    have sb:B.isRed = false∧D.isRed = false:=by have:=I.sn.1 sr; first | exact this | exact ⟨this.2,this.1⟩
    have sL:B.Lim∧D.Lim:=by have:=I.sl.2; first | exact this | exact ⟨this.2,this.1⟩
    have sZ:B.Z∧D.Z:=by have:=I.sz.2; first | exact this | exact ⟨this.2,this.1⟩
    obtain ⟨b,db,bl,br,e⟩:∃ b db bl br,B = .L b db bl br:=by
      obtain ⟨i,d,l,r,e⟩:=BH_succ sBH.1
      first | exact ⟨i,d,l,r,e⟩ | exact ⟨i,d,r,l,e⟩
    subst e
    refine R.set S.upL.downR (d':={ ds with red:=false }) rfl rfl rfl (fun _=>rfl) rfl fun σ1 S1 K1=>?_
    refine R.set S1.upR (d':={ dp with red:=true }) rfl rfl rfl (fun _=>rfl) rfl fun σ2 S2 K2=>?_
    refine R.call rfl (turnTowards_okL (n:=n) S2 I.pz I.sz.1 fun σ3 S3 K3=>?_)
    have S4:=S3.downL.downL
    refine R.callA rfl (siblingOf_okL (n:=n + 3) S4 ?_)
    have KK:=(K1.trans K2).trans K3
    have cB:=I.cB
    have cn:=I.cn
    have rr:=I.rr
    rw [pb] at cB cn rr
    refine lt_restL (n:=n) (h:=h) S4 ⟨I.tb,I.tn,I.tB,I.tl,I.tz,sBH.1,sN.1,sL.1,sZ.1,(fun _=>sb.1),⟨sBH.2,cB⟩,?_,⟨I.sz.1,sZ.2,I.cz⟩,I.pz,rr,?_⟩ rfl sb.1 (fun σ' t' S' O K'=>kd σ' t' S' O (KK.trans K')) (fun σ' l r S' D' q ct K'=>nomatch q)
    · exact ⟨(fun q=>nomatch q),sN.2,cn⟩
    · have key:=I.lim'L pl (dS:={ ds with red:=false,limit:=gEL { ds with red:=false } (.L p { dp with red:=true,limit:=gEL { dp with red:=true } t (.L b db bl br) } t (.L b db bl br)) D }) (dP:={ dp with red:=true,limit:=gEL { dp with red:=true } t (.L b db bl br) }) (D':=D) (p:=p) rfl rfl rfl rfl rfl rfl rfl
      refine ⟨rfl,sL.2,?_⟩
      have cl:=I.cl
      rw [← key] at cl
      exact cl
  · have sr':ds.red = false:=by cases e:ds.red; rfl; exact absurd e sr
    refine R.iteF (b:=false) ((ev_redT (t:=.L s ds B D) (p:=some p) rfl hs).trans (congrArg (fun b=>some (SV.bool b)) sr')) rfl ?_
    exact lt_restL (n:=n) S I pl sr' kd ku
theorem lt_restR {Q:SV→Hp→Prop} {c:C} {p s h:Nat} {dp ds:Dt} {t B D:T} {v x y:Option SV} (S:St σ tr cnt V (.R p dp (.R s ds B D) c) t) (I:Lt t (.R s ds B D) dp c h) (pl:dp.limit = gER dp t (.R s ds B D)) (sb:ds.red = false)
    (kd:∀ σ' t',St σ' tr cnt V .top t'→OkZ t'→KV tr V σ σ'→Q .none σ') (ku:∀ σ' l r,St σ' tr cnt V c (.nd p dp l r)→Dr c (.nd p dp l r) (h + 1)→dp.red = false→c ≠ .top→KV tr V σ σ'→Q (.ref p) σ') :
    W (n + 4) ltRest (Fq Q) [some (.ref tr),v,some (.ref p),some (.bool false),some (.ref s),x,y] σ:=by
  have hs:TreeAt σ (.R s ds B D) (some p):=S.ctx.2.1
  have tB:TreeAt σ B (some s)∧TreeAt σ D (some s):=by have:=hs.2; first | exact this | exact ⟨this.2,this.1⟩
  refine R.assign (v:=opt D.root) (ev_ite (t:=false) rfl (ev_attr (e:=.var 4) rfl hs.1)) ?_
  refine R.assign (v:=opt B.root) (ev_ite (t:=false) rfl (ev_attr (e:=.var 4) rfl hs.1)) ?_
  by_cases Dr_:D.isRed = true
  · refine R.iteF (b:=false) (ev_and (t:=false) ((ev_not (ev_redT (t:=D) (p:=some s) rfl tB.2)).trans (congrArg (fun b=>some (SV.bool !b)) Dr_)) rfl) rfl ?_
    refine R.iteF (b:=false) ((ev_not (ev_redT (t:=D) (p:=some s) rfl tB.2)).trans (congrArg (fun b=>some (SV.bool !b)) Dr_)) rfl ?_
    exact lt_farR (n:=n) S I pl sb Dr_ fun σ' t' ρ S' O K'=>Fq.now (fl:=.ret .none) (kd σ' t' S' O K')
  have Db:=nred Dr_
  by_cases Br:B.isRed = true
  · refine R.iteF (b:=false) (ev_and (t:=true) ((ev_not (ev_redT (t:=D) (p:=some s) rfl tB.2)).trans (congrArg (fun b=>some (SV.bool !b)) Db)) ((ev_not (ev_redT (t:=B) (p:=some s) rfl tB.1)).trans (congrArg (fun b=>some (SV.bool !b)) Br))) rfl ?_
    refine R.iteT (b:=true) ((ev_not (ev_redT (t:=D) (p:=some s) rfl tB.2)).trans (congrArg (fun b=>some (SV.bool !b)) Db)) rfl ?_
    have sBH:B.BH h∧D.BH h:=by have:=BH_black I.sB sb; first | exact this | exact ⟨this.2,this.1⟩
    have sN:B.NR∧D.NR:=by have:=I.sn.2; first | exact this | exact ⟨this.2,this.1⟩
    have sL:B.Lim∧D.Lim:=by have:=I.sl.2; first | exact this | exact ⟨this.2,this.1⟩
    have sZ:B.Z∧D.Z:=by have:=I.sz.2; first | exact this | exact ⟨this.2,this.1⟩
    obtain ⟨i,di,e',f',e⟩:∃ i di e f,B = .L i di e f:=by
      cases B with
      | nil=>cases Br
      | nd i di l r=>first | exact ⟨i,di,r,l,rfl⟩ | exact ⟨i,di,l,r,rfl⟩
    subst e
    have iB:e'.BH h∧f'.BH h:=by have:=BH_red sBH.1 Br; first | exact this | exact ⟨this.2,this.1⟩
    have iN:e'.NR∧f'.NR:=by have:=sN.1.2; first | exact this | exact ⟨this.2,this.1⟩
    have ib:e'.isRed = false∧f'.isRed = false:=by have:=sN.1.1 Br; first | exact this | exact ⟨this.2,this.1⟩
    have iL:e'.Lim∧f'.Lim:=by have:=sL.1.2; first | exact this | exact ⟨this.2,this.1⟩
    have iZ:e'.Z∧f'.Z:=by have:=sZ.1.2; first | exact this | exact ⟨this.2,this.1⟩
    refine R.set S.upR.downL.downR (d':={ di with red:=false }) rfl rfl rfl (fun _=>rfl) rfl fun σ1 S1 K1=>?_
    refine R.set S1.upR (d':={ ds with red:=true }) rfl rfl rfl (fun _=>rfl) rfl fun σ2 S2 K2=>?_
    refine R.call rfl (turnTowards_okL (n:=n) (A:=D) (B:=e') (D:=f') S2 I.sz.1 sZ.1.1 fun σ3 S3 K3=>?_)
    refine R.callA rfl (siblingOf_okR (n:=n + 3) S3.upL.downR ?_)
    have S4:=S3.upL.downR
    have hi:=S4.ctx.2.1
    refine R.assign (v:=.ref s) (ev_ite (t:=false) rfl (ev_attr (e:=.var 4) rfl hi.1)) ?_
    have KK:=(K1.trans K2).trans K3
    have key:gEL { di with red:=false } (.L s { ds with red:=true,limit:=gEL { ds with red:=true } D e' } D e') f' = ds.limit:=by
      have e1:ds.limit = gER ds (.L i di e' f') D:=I.sl.1
      have e2:di.limit = gEL di e' f':=sL.1.1
      rw [e1]
      show mxo (mxo _ _) _ = mxo (mxo _ _) _
      have z1:ds.offset = 0:=I.sz.1
      have z2:di.offset = 0:=sZ.1.1
      unfold gEL gER gEnd at *
      show mxo (mxo di.end_ _) _ = mxo (mxo ds.end_ _) _
      first
        | (show mxo (mxo di.end_ f'.lim) (some (mxo (mxo ds.end_ e'.lim) D.lim + ds.offset)) = mxo (mxo ds.end_ (some (di.limit + di.offset))) D.lim
           rw [z1,z2,Int.add_zero,Int.add_zero,e2]
           exact rot_mx' _ _ _ _ _)
        | (show mxo (mxo di.end_ (some (mxo (mxo ds.end_ D.lim) e'.lim + ds.offset))) f'.lim = mxo (mxo ds.end_ D.lim) (some (di.limit + di.offset))
           rw [z1,z2,Int.add_zero,Int.add_zero,e2]
           exact rot_mx _ _ _ _ _)
    refine lt_farR (n:=n) S4 ⟨I.tb,I.tn,I.tB,I.tl,I.tz,?_,?_,?_,?_,(fun _=>rfl),I.cB,I.cn,I.cz,I.pz,I.rr,I.cl⟩ ?_ rfl rfl fun σ' t' ρ S' O K'=>Fq.now (fl:=.ret .none) (kd σ' t' S' O (KK.trans K'))
    · have q:(T.L s { ds with red:=true,limit:=gEL { ds with red:=true } D e' } D e').BH h:=by first | exact mkRed sBH.2 iB.1 rfl | exact mkRed iB.1 sBH.2 rfl
      first | exact mkBlack iB.2 q rfl | exact mkBlack q iB.2 rfl
    · have q:(T.L s { ds with red:=true,limit:=gEL { ds with red:=true } D e' } D e').NR:=by first | exact ⟨fun _=>⟨ib.1,Db⟩,iN.1,sN.2⟩ | exact ⟨fun _=>⟨Db,ib.1⟩,sN.2,iN.1⟩
      first | exact ⟨(fun q=>nomatch q),iN.2,q⟩ | exact ⟨(fun q=>nomatch q),q,iN.2⟩
    · have q:(T.L s { ds with red:=true,limit:=gEL { ds with red:=true } D e' } D e').Lim:=by first | exact ⟨rfl,iL.1,sL.2⟩ | exact ⟨rfl,sL.2,iL.1⟩
      first | exact ⟨rfl,iL.2,q⟩ | exact ⟨rfl,q,iL.2⟩
    · have q:(T.L s { ds with red:=true,limit:=gEL { ds with red:=true } D e' } D e').Z:=by first | exact ⟨I.sz.1,iZ.1,sZ.2⟩ | exact ⟨I.sz.1,sZ.2,iZ.1⟩
      first | exact ⟨sZ.1.1,iZ.2,q⟩ | exact ⟨sZ.1.1,q,iZ.2⟩
    · rw [pl]
      have z1:ds.offset = 0:=I.sz.1
      have z2:di.offset = 0:=sZ.1.1
      have q:T.lim (.R s ds (.L i di e' f') D) = T.lim (.L i { di with red:=false,limit:=gEL { di with red:=false } (.L s { ds with red:=true,limit:=gEL { ds with red:=true } D e' } D e') f' } (.L s { ds with red:=true,limit:=gEL { ds with red:=true } D e' } D e') f'):=by
        show some (ds.limit + ds.offset) = some (gEL { di with red:=false } (.L s { ds with red:=true,limit:=gEL { ds with red:=true } D e' } D e') f' + di.offset)
        rw [key,z1,z2]
      unfold gER gEnd
      rw [q]
  · have Bb:=nred Br
    refine R.iteT (b:=true) (ev_and (t:=true) ((ev_not (ev_redT (t:=D) (p:=some s) rfl tB.2)).trans (congrArg (fun b=>some (SV.bool !b)) Db)) ((ev_not (ev_redT (t:=B) (p:=some s) rfl tB.1)).trans (congrArg (fun b=>some (SV.bool !b)) Bb))) rfl ?_
    unfold W
    rw [wpSs_app]
    exact lt_bothR (n:=n + 4) S I pl sb Bb Db (fun σ' t' ρ S' O K'=>Fq.now (fl:=.ret .none) (kd σ' t' S' O K')) (fun σ' l r ρ S' D' q ct K'=>Fq.now (fl:=.ret (.ref p)) (ku σ' l r S' D' q ct K'))
theorem lightened_okR {Q:SV→Hp→Prop} {c:C} {p h:Nat} {dp:Dt} {t sib:T} {v:SV} (S:St σ tr cnt V (.R p dp sib c) t) (I:Lt t sib dp c h) (pl:dp.limit = gER dp t sib)
    (kd:∀ σ' t',St σ' tr cnt V .top t'→OkZ t'→KV tr V σ σ'→Q .none σ') (ku:∀ σ' l r,St σ' tr cnt V c (.nd p dp l r)→Dr c (.nd p dp l r) (h + 1)→dp.red = false→c ≠ .top→KV tr V σ σ'→Q (.ref p) σ') :
    wpFn fnD (n + 6) .lightened [.ref tr,v,.ref p,.bool false] Q σ:=by
  obtain ⟨s,ds,B,D,e⟩:∃ s ds B D,sib = .R s ds B D:=by
    obtain ⟨i,d,l,r,e⟩:=BH_succ I.sB
    first | exact ⟨i,d,l,r,e⟩ | exact ⟨i,d,r,l,e⟩
  subst e
  refine ⟨rfl,R.callA (n:=n + 4) rfl (siblingOf_okR (n:=n + 3) S ?_)⟩
  have hs:TreeAt σ (.R s ds B D) (some p):=S.ctx.2.1
  by_cases sr:ds.red = true
  · refine R.iteT (b:=true) ((ev_redT (t:=.R s ds B D) (p:=some p) rfl hs).trans (congrArg (fun b=>some (SV.bool b)) sr)) rfl ?_
    have pb:dp.red = false:=by
      cases e:dp.red with
      | false=>rfl
      | true=>have q:(T.R s ds B D).isRed = false:=I.pn e; rw [show (T.R s ds B D).isRed = ds.red from rfl,sr] at q; cases q
    have sBH:B.BH (h + 1)∧D.BH (h + 1):=by have:=BH_red I.sB sr; first | exact this | exact ⟨this.2,this.1⟩
    have sN:B.NR∧D.NR:=by have:=I.sn.2; first | exact this | exact ⟨this.2,this.1⟩
    have sb:B.isRed = false∧D.isRed = false:=by have:=I.sn.1 sr; first | exact this | exact ⟨this.2,this.1⟩
    have sL:B.Lim∧D.Lim:=by have:=I.sl.2; first | exact this | exact ⟨this.2,this.1⟩
    have sZ:B.Z∧D.Z:=by have:=I.sz.2; first | exact this | exact ⟨this.2,this.1⟩
    obtain ⟨b,db,bl,br,e⟩:∃ b db bl br,B = .R b db bl br:=by
      obtain ⟨i,d,l,r,e⟩:=BH_succ sBH.1
      first | exact ⟨i,d,l,r,e⟩ | exact ⟨i,d,r,l,e⟩
    subst e
    refine R.set S.upR.downL (d':={ ds with red:=false }) rfl rfl rfl (fun _=>rfl) rfl fun σ1 S1 K1=>?_
    refine R.set S1.upL (d':={ dp with red:=true }) rfl rfl rfl (fun _=>rfl) rfl fun σ2 S2 K2=>?_
    refine R.call rfl (turnTowards_okR (n:=n) S2 I.pz I.sz.1 fun σ3 S3 K3=>?_)
    have S4:=S3.downR.downR
    refine R.callA rfl (siblingOf_okR (n:=n + 3) S4 ?_)
    have KK:=(K1.trans K2).trans K3
    have cB:=I.cB
    have cn:=I.cn
    have rr:=I.rr
    rw [pb] at cB cn rr
    refine lt_restR (n:=n) (h:=h) S4 ⟨I.tb,I.tn,I.tB,I.tl,I.tz,sBH.1,sN.1,sL.1,sZ.1,(fun _=>sb.1),⟨sBH.2,cB⟩,?_,⟨I.sz.1,sZ.2,I.cz⟩,I.pz,rr,?_⟩ rfl sb.1 (fun σ' t' S' O K'=>kd σ' t' S' O (KK.trans K')) (fun σ' l r S' D' q ct K'=>nomatch q)
    · exact ⟨(fun q=>nomatch q),sN.2,cn⟩
    · have key:=I.lim'R pl (dS:={ ds with red:=false,limit:=gER { ds with red:=false } (.R p { dp with red:=true,limit:=gER { dp with red:=true } t (.R b db bl br) } t (.R b db bl br)) D }) (dP:={ dp with red:=true,limit:=gER { dp with red:=true } t (.R b db bl br) }) (D':=D) (p:=p) rfl rfl rfl rfl rfl rfl rfl
      refine ⟨rfl,sL.2,?_⟩
      have cl:=I.cl
      rw [← key] at cl
      exact cl
  · have sr':ds.red = false:=by cases e:ds.red; rfl; exact absurd e sr
    refine R.iteF (b:=false) ((ev_redT (t:=.R s ds B D) (p:=some p) rfl hs).trans (congrArg (fun b=>some (SV.bool b)) sr')) rfl ?_
    exact lt_restR (n:=n) S I pl sr' kd ku
end
end Mine
namespace Mine
noncomputable def T.lroot:T→Option Nat
  | .nil=>none
  | .nd _ _ l _=>l.root
theorem ctx_root' {σ:Hp} {tr:Nat} {cnt:Int} {c:C} {o:Option Nat} (h:CtxAt σ tr cnt c o) (hc:c ≠ .top):∃ r,σ tr = some (.tree ⟨some r,cnt⟩)∧(σ r).isSome = true∧(r ∈ c.pre ∨ r ∈ c.post):=by
  cases c with
  | top=>exact absurd rfl hc
  | L i d t c =>
    obtain ⟨r,h1,h2,h3⟩:=ctx_root (c:=c) h.2.2 (by rw [h.1]; rfl)
    refine ⟨r,h1,h2,?_⟩
    rcases h3 with ⟨_,e⟩ | ⟨_,e | e⟩
    · exact .inr (List.mem_append_left _ (e ▸ .head _))
    · exact .inl e
    · exact .inr (List.mem_append_right _ e)
  | R i d t c =>
    obtain ⟨r,h1,h2,h3⟩:=ctx_root (c:=c) h.2.2 (by rw [h.1]; rfl)
    refine ⟨r,h1,h2,?_⟩
    rcases h3 with ⟨_,e⟩ | ⟨_,e | e⟩
    · exact .inl (List.mem_append_right _ (List.mem_append_right _ (e ▸ .head _)))
    · exact .inl (List.mem_append_left _ e)
    · exact .inr e
theorem ev_isNN {σ:Hp} {ρ:Lc} {neg:Bool} {a b:E} (h1:ev σ ρ a = some .none) (h2:ev σ ρ b = some .none):ev σ ρ (.is neg a b) = some (.bool !neg):=by
  show (ev σ ρ a).bind _ = _
  rw [h1]
  show (ev σ ρ b).bind _ = _
  rw [h2]
  rfl
theorem ev_isRN {σ:Hp} {ρ:Lc} {neg:Bool} {a b:E} {p:Nat} (h1:ev σ ρ a = some (.ref p)) (h2:ev σ ρ b = some .none):ev σ ρ (.is neg a b) = some (.bool neg):=by
  show (ev σ ρ a).bind _ = _
  rw [h1]
  show (ev σ ρ b).bind _ = _
  rw [h2]
  rfl
theorem cd_test {σ:Hp} {ρ:Lc} {tr:Nat} {cnt:Int} {V:List En} {c:C} {t:T} (S:St σ tr cnt V c t) (h1:rd ρ 1 = some (opt t.root)) (h0:rd ρ 0 = some (.ref tr)) :
    (c = .top∧ev σ ρ (.and (.is true (.var 1) (.attr (.var 0) .root)) (.not (.call .isRed (.cons (.var 1) .nil)))) = some (.bool false)) ∨
    (c ≠ .top∧ev σ ρ (.and (.is true (.var 1) (.attr (.var 0) .root)) (.not (.call .isRed (.cons (.var 1) .nil)))) = some (.bool !t.isRed)):=by
  by_cases hc:c = .top
  · subst hc
    refine .inl ⟨rfl,ev_and (t:=false) ?_ rfl⟩
    have e2:ev σ ρ (.attr (.var 0) .root) = some (opt t.root):=ev_attrT (e:=.var 0) h0 S.ctx
    cases t with
    | nil=>exact ev_isNN (a:=.var 1) h1 e2
    | nd i d l r=>exact (ev_isRef (a:=.var 1) (p:=i) (q:=i) h1 e2 S.alive S.alive).trans (by simp)
  · obtain ⟨r,e1,e2,e3⟩:=ctx_root' S.ctx hc
    have er:ev σ ρ (.attr (.var 0) .root) = some (.ref r):=ev_attrT (e:=.var 0) h0 e1
    refine .inr ⟨hc,ev_and (t:=true) ?_ (ev_not (ev_redT (e:=.var 1) h1 S.tree))⟩
    cases t with
    | nil=>exact ev_isNR (a:=.var 1) h1 er
    | nd i d l r' =>
      refine (ev_isRef (a:=.var 1) (p:=i) (q:=r) h1 er S.alive e2).trans ?_
      have:i ≠ r:=(S.apart.2.2.2 r e3).symm
      simp [this]
noncomputable def cdBody:Ss:=.cons (.assign 3 (.is false (.attr (.var 2) .left) (.var 1))) (.cons (.assign 1 (.call .lightened (.cons (.var 0) (.cons (.var 1) (.cons (.var 2) (.cons (.var 3) .nil)))))) (.cons (.ite (.is false (.var 1) .none) (.cons .retNone .nil) .nil) (.cons (.assign 2 (.attr (.var 1) .parent)) .nil)))
section
variable {n:Nat} {σ:Hp} {tr:Nat} {cnt:Int} {V:List En}
theorem cd_bodyL {K:Fl→Lc→Hp→Prop} {c:C} {p h:Nat} {dp:Dt} {t sib:T} {a:Option SV} (S:St σ tr cnt V (.L p dp sib c) t) (D:Dr (.L p dp sib c) t h) (tb:t.isRed = false)
    (kd:∀ σ' t' ρ,St σ' tr cnt V .top t'→OkZ t'→KV tr V σ σ'→K (.ret .none) ρ σ') (ku:∀ σ' l r b,St σ' tr cnt V c (.nd p dp l r)→Dr c (.nd p dp l r) (h + 1)→KV tr V σ σ'→K .next [some (.ref tr),some (.ref p),some (opt c.pid),b] σ') :
    W (n + 5) cdBody K [some (.ref tr),some (opt t.root),some (.ref p),a] σ:=by
  have sB:sib.BH (h + 1):=D.cB.1
  have hs:TreeAt σ sib (some p):=S.ctx.2.1
  have I:Lt t sib dp c h:=⟨tb,D.tn,D.tB,D.tl,D.tz,sB,D.cn.2.1,D.cl.2.1,D.cz.2.1,(fun q=>by have:=D.cn.1 q; first | exact this.2 | exact this.1),D.cB.2,D.cn.2.2,D.cz.2.2,D.cz.1,D.rr,D.cl.2.2⟩
  refine R.assign (v:=.bool true) ?_ ?_
  · have P:ev σ [some (.ref tr),some (opt t.root),some (.ref p),a] (.attr (.var 2) .left) = some (opt (T.L p dp t sib).lroot):=ev_attr (e:=.var 2) rfl S.ctx.1
    first
      | (cases t with
         | nil=>exact ev_isNN P rfl
         | nd x d l r=>exact (ev_isRef (p:=x) (q:=x) P rfl S.alive S.alive).trans (by simp))
      | (obtain ⟨s,ds,sl,sr,e⟩:=BH_succ sB
         subst e
         cases t with
         | nil=>exact ev_isRN P rfl
         | nd x d l r =>
           refine (ev_isRef (p:=s) (q:=x) P rfl (by rw [hs.1]; rfl) S.alive).trans ?_
           have:s ≠ x:=S.apart.2.2.2 s (by simp [C.pre,C.post,T.ids])
           simp [this])
  · refine R.callA rfl (lightened_okL (n:=n) S I D.cl.1 (fun σ' t' S' O K'=>?_) (fun σ' l r S' D' q ct K'=>?_))
    · exact R.iteT (ev_isNone (o:=none) rfl) rfl (kd σ' t' _ S' O K')
    · exact R.iteF (ev_isNone (o:=some p) rfl) rfl (R.assign (v:=opt c.pid) (ev_attr (e:=.var 1) rfl S'.node) (ku σ' l r _ S' D' K'))
theorem cd_bodyR {K:Fl→Lc→Hp→Prop} {c:C} {p h:Nat} {dp:Dt} {t sib:T} {a:Option SV} (S:St σ tr cnt V (.R p dp sib c) t) (D:Dr (.R p dp sib c) t h) (tb:t.isRed = false)
    (kd:∀ σ' t' ρ,St σ' tr cnt V .top t'→OkZ t'→KV tr V σ σ'→K (.ret .none) ρ σ') (ku:∀ σ' l r b,St σ' tr cnt V c (.nd p dp l r)→Dr c (.nd p dp l r) (h + 1)→KV tr V σ σ'→K .next [some (.ref tr),some (.ref p),some (opt c.pid),b] σ') :
    W (n + 5) cdBody K [some (.ref tr),some (opt t.root),some (.ref p),a] σ:=by
  have sB:sib.BH (h + 1):=D.cB.1
  have hs:TreeAt σ sib (some p):=S.ctx.2.1
  have I:Lt t sib dp c h:=⟨tb,D.tn,D.tB,D.tl,D.tz,sB,D.cn.2.1,D.cl.2.1,D.cz.2.1,(fun q=>by have:=D.cn.1 q; first | exact this.2 | exact this.1),D.cB.2,D.cn.2.2,D.cz.2.2,D.cz.1,D.rr,D.cl.2.2⟩
  refine R.assign (v:=.bool false) ?_ ?_
  · have P:ev σ [some (.ref tr),some (opt t.root),some (.ref p),a] (.attr (.var 2) .left) = some (opt (T.R p dp t sib).lroot):=ev_attr (e:=.var 2) rfl S.ctx.1
    first
      | (cases t with
         | nil=>exact ev_isNN P rfl
         | nd x d l r=>exact (ev_isRef (p:=x) (q:=x) P rfl S.alive S.alive).trans (by simp))
      | (obtain ⟨s,ds,sl,sr,e⟩:=BH_succ sB
         subst e
         cases t with
         | nil=>exact ev_isRN P rfl
         | nd x d l r =>
           refine (ev_isRef (p:=s) (q:=x) P rfl (by rw [hs.1]; rfl) S.alive).trans ?_
           have:s ≠ x:=S.apart.2.2.2 s (by simp [C.pre,C.post,T.ids])
           simp [this])
  · refine R.callA rfl (lightened_okR (n:=n) S I D.cl.1 (fun σ' t' S' O K'=>?_) (fun σ' l r S' D' q ct K'=>?_))
    · exact R.iteT (ev_isNone (o:=none) rfl) rfl (kd σ' t' _ S' O K')
    · exact R.iteF (ev_isNone (o:=some p) rfl) rfl (R.assign (v:=opt c.pid) (ev_attr (e:=.var 1) rfl S'.node) (ku σ' l r _ S' D' K'))
end
noncomputable abbrev cdInv (tr:Nat) (cnt:Int) (V:List En) (σ:Hp) (s:C × T × Nat) (ρ:Lc) (σ':Hp):Prop :=
  (∃ a,ρ = [some (.ref tr),some (opt s.2.1.root),some (opt s.1.pid),a])∧St σ' tr cnt V s.1 s.2.1∧Dr s.1 s.2.1 s.2.2∧KV tr V σ σ'
theorem colourDropped_ok {n:Nat} {Q:SV→Hp→Prop} {σ:Hp} {tr:Nat} {cnt:Int} {V:List En} {c:C} {t:T} {h:Nat} (S:St σ tr cnt V c t) (D:Dr c t h) (k:∀ σ' t',St σ' tr cnt V .top t'→OkZ t'→KV tr V σ σ'→Q .none σ') :
    wpFn fnD (n + 7) .colourDropped [.ref tr,opt t.root,opt c.pid] Q σ:=by
  refine ⟨rfl,R.while (n:=n + 5) (fun s:C × T × Nat=>s.1.len) (cdInv tr cnt V σ) (c,t,h) ⟨⟨none,rfl⟩,S,D,Keep.refl⟩ ?_⟩
  rintro ⟨c,t,h⟩ ρ σ1 ⟨⟨a,rfl⟩,S,D,K0⟩
  have S:St σ1 tr cnt V c t:=S
  have D:Dr c t h:=D
  have out:(c = .top ∨ t.isRed = true)→W (n + 5) (.cons (.ite (.is true (.var 1) .none) (.cons (.setattr (.var 1) .red (.bool false)) .nil) .nil) .nil) (Fq Q) [some (.ref tr),some (opt t.root),some (opt c.pid),a] σ1:=fun hq=>by
    cases t with
    | nil =>
      have ct:c = .top:=by rcases hq with q | q; exact q; cases q
      subst ct
      exact R.iteF (ev_isNone (o:=none) rfl) rfl (Fq.now (fl:=.next) (k σ1 .nil S ⟨⟨⟨0,rfl⟩,trivial,rfl,trivial⟩,trivial⟩ K0))
    | nd x d l r =>
      refine R.iteT (ev_isNone (o:=some x) rfl) rfl (R.set S (d':={ d with red:=false }) rfl rfl rfl (fun _=>rfl) rfl fun σ2 S2 K2=>Fq.now (fl:=.next) (k σ2 _ S2.up ?_ (K0.trans K2)))
      have n2:(T.nd x { d with red:=false } l r).NR:=⟨(fun q=>nomatch q),D.tn.2⟩
      by_cases q:d.red = true
      · have b:=BH_red D.tB q
        exact OkZ.of (mkBlack b.1 b.2 rfl) D.cB D.cn n2 D.rr D.cl D.tl D.cz D.tz
      · have ct:c = .top:=by rcases hq with e | e; exact e; exact absurd e q
        subst ct
        obtain ⟨m,b1,b2,_⟩:=D.tB
        exact OkZ.of (mkBlack b1 b2 rfl) trivial trivial n2 rfl trivial D.tl trivial D.tz
  rcases cd_test (ρ:=[some (.ref tr),some (opt t.root),some (opt c.pid),a]) S rfl rfl with ⟨ct,e⟩ | ⟨ct,e⟩
  · exact ⟨false,e,fun _=>out (.inl ct),(fun q=>nomatch q)⟩
  · refine ⟨!t.isRed,e,fun q=>out (.inr (by simpa using q)),fun q J hJ=>?_⟩
    have tb:t.isRed = false:=by simpa using q
    cases c with
    | top=>exact absurd rfl ct
    | L p dp sib c =>
      exact cd_bodyL (K:=fun fl ρ σ=>match fl with | .next=>J ρ σ | .ret w=>Fq Q (.ret w) ρ σ) S D tb (fun σ' t' ρ S' O K'=>Fq.now (fl:=.ret .none) (k σ' t' S' O (K0.trans K')))
        (fun σ' l r b S' D' K'=>hJ (c,.nd p dp l r,h + 1) _ σ' (Nat.lt_succ_self _) ⟨⟨b,rfl⟩,S',D',K0.trans K'⟩)
    | R p dp sib c =>
      exact cd_bodyR (K:=fun fl ρ σ=>match fl with | .next=>J ρ σ | .ret w=>Fq Q (.ret w) ρ σ) S D tb (fun σ' t' ρ S' O K'=>Fq.now (fl:=.ret .none) (k σ' t' S' O (K0.trans K')))
        (fun σ' l r b S' D' K'=>hJ (c,.nd p dp l r,h + 1) _ σ' (Nat.lt_succ_self _) ⟨⟨b,rfl⟩,S',D',K0.trans K'⟩)
end Mine
namespace Mine
theorem listAt_ref {σ:Hp} {l:Nat} {vs:List SV} (h:σ l = some (.list vs)):listAt σ (.ref l) = some vs:=by
  unfold listAt SV.asRef
  rw [Option.bind_some,h]
  rfl
section
variable {n:Nat} {Q:Fl→Lc→Hp→Prop} {ρ:Lc} {σ:Hp} {r:Ss}
theorem R.newL {x:Nat} (k:∀ l,σ l = none→W n r Q (ρ.set x (some (.ref l))) (upd σ l (.list []))):W n (.cons (.assign x (.list .nil)) r) Q ρ σ:=⟨by decide,k⟩
theorem R.newL1 {x:Nat} {e:E} {v:SV} (h:ev σ ρ e = some v) (k:∀ l,σ l = none→W n r Q (ρ.set x (some (.ref l))) (upd σ l (.list [v]))):W n (.cons (.assign x (.list (.cons e .nil))) r) Q ρ σ:=ev_ok (e:=e) h ⟨by show 1 < 1000; decide,k⟩
theorem R.append {a b:E} {l:Nat} {w:SV} {vs:List SV} (ha:ev σ ρ a = some (.ref l)) (hb:ev σ ρ b = some w) (hl:σ l = some (.list vs)) (hz:vs.length < 1000) (k:W n r Q ρ (upd σ l (.list (vs ++ [w])))):W n (.cons (.expr (.append a b)) r) Q ρ σ :=
  ev_ok (e:=a) ha ⟨by rw [listAt_ref hl]; rfl,ev_ok (e:=b) hb ⟨l,rfl,vs,listAt_ref hl,hz,k⟩⟩
theorem R.pop {x:Nat} {a:E} {l:Nat} {w:SV} {vs:List SV} (ha:ev σ ρ a = some (.ref l)) (hl:σ l = some (.list (vs ++ [w]))) (hz:vs.length < 1000) (k:W n r Q (ρ.set x (some w)) (upd σ l (.list vs))):W n (.cons (.assign x (.pop a)) r) Q ρ σ :=
  ev_ok (e:=a) ha ⟨l,rfl,_,listAt_ref hl,by rw [List.length_append]; show vs.length + 1 < 1048576; omega,vs,w,rfl,k⟩
end
theorem R.forRev {n:Nat} {Q:Fl→Lc→Hp→Prop} {ρ:Lc} {σ:Hp} {r body:Ss} {x l:Nat} {a:E} {vs:List SV} (ha:ev σ ρ a = some (.ref l)) (hl:σ l = some (.list vs)) (hz:vs.length < 1000)
    (k:∀ q,σ q = none→forGo x (fun K ρ σ=>wpSs (wpFn fnD (n + 1)) body K ρ σ) (fun σ'=>σ' q = some (.list vs.reverse)) vs.reverse (Kn (wpFn fnD (n + 1)) r Q) ρ (upd σ q (.list vs.reverse))):W n (.cons (.forList x (.rev a) body) r) Q ρ σ:=by
  refine ev_ok (n:=n) (e:=a) (v:=.ref l) (Q:=fun v σ=>on (listAt σ v) fun vs=>vs.length < 2 ^ 20∧newO (.list vs.reverse) (fun v σ=>on v.asRef fun l=>on (listAt σ v) fun vs=>forGo x (fun K ρ σ=>wpSs (wpFn fnD (n + 1)) body K ρ σ) (fun σ=>σ l = some (.list vs)) vs (Kn (wpFn fnD (n + 1)) r Q) ρ σ) σ) ha ?_
  exact ⟨vs,listAt_ref hl,by show vs.length < 1048576; omega,fun q hq=>⟨q,rfl,vs.reverse,listAt_ref (upd_same ..),k q hq⟩⟩
theorem forGo_rule {x:Nat} {B:(Fl→Lc→Hp→Prop)→Lc→Hp→Prop} {ok:Hp→Prop} {Q:Fl→Lc→Hp→Prop} (Inv:List SV→Lc→Hp→Prop)
    (step:∀ v rest ρ σ (J:Lc→Hp→Prop),Inv (v :: rest) ρ σ→(∀ ρ' σ',Inv rest ρ' σ'→J ρ' σ')→B (fun fl ρ σ=>match fl with | .next=>ok σ∧J ρ σ | .ret w=>Q (.ret w) ρ σ) (ρ.set x (some v)) σ)
    (fin:∀ ρ σ,Inv [] ρ σ→Q .next ρ σ):∀ vs ρ σ,Inv vs ρ σ→forGo x B ok vs Q ρ σ
  | [],ρ,σ,h=>fin ρ σ h
  | v :: rest,ρ,σ,h=>step v rest ρ σ _ h fun ρ' σ' h'=>forGo_rule Inv step fin rest ρ' σ' h'
theorem St.keep {σ σ':Hp} {tr:Nat} {cnt:Int} {V:List En} {c:C} {t:T} (S:St σ tr cnt V c t) (h:Keep [] σ σ'):St σ' tr cnt V c t:=by
  have key:∀ {t:T} {p:Option Nat},TreeAt σ t p→TreeAt σ' t p:=by
    intro t
    induction t with
    | nil=>intro _ _; trivial
    | nd i d l r ih1 ih2=>intro p q; exact ⟨h _ _ (fun q=>nomatch q) q.1,ih1 q.2.1,ih2 q.2.2⟩
  have key2:∀ {c:C} {x:Option Nat},CtxAt σ tr cnt c x→CtxAt σ' tr cnt c x:=by
    intro c
    induction c with
    | top=>intro x q; exact h _ _ (fun q=>nomatch q) q
    | L i d t c ih=>intro x q; exact ⟨h _ _ (fun q=>nomatch q) q.1,key q.2.1,ih q.2.2⟩
    | R i d t c ih=>intro x q; exact ⟨h _ _ (fun q=>nomatch q) q.1,key q.2.1,ih q.2.2⟩
  exact ⟨key2 S.ctx,key S.tree,S.nd,S.vals⟩
noncomputable def Zr (σ:Hp) (v:SV):Prop:=∃ i nd,v = .ref i∧σ i = some (.node nd)∧nd.offset = 0
theorem Keep.upd' {σ σ':Hp} {l:Nat} {o:SO} (h:Keep [] σ σ') (hl:σ l = none):Keep [] σ (upd σ' l o):=fun z x hz e=>(upd_ne _ _ (fun q=>by rw [q,hl] at e; cases e)).trans (h z x hz e)
theorem handDownTo_ok {n:Nat} {Q:SV→Hp→Prop} {σ:Hp} {tr:Nat} {cnt:Int} {V:List En} {c:C} {x:Nat} {d:Dt} {l r:T} (S:St σ tr cnt V c (.nd x d l r)) (h0:d.offset = 0) (cz:c.Z0) (hlen:c.len < 900) (k:∀ σ',Keep [] σ σ'→Q .none σ') :
    wpFn fnD (n + 3) .handDownTo [.ref x] Q σ:=by
  have up:∀ (c:C) (x:Option Nat),CtxAt σ tr cnt c x→c.Z0→∀ i,c.pid = some i→∃ nd c',σ i = some (.node nd)∧nd.offset = 0∧nd.parent = c'.pid∧c'.len + 1 = c.len∧CtxAt σ tr cnt c' (some i)∧c'.Z0:=by
    intro c x h z i e
    cases c with
    | top=>cases e
    | L j d t c=>cases e; exact ⟨_,c,h.1,z.1,rfl,rfl,h.2.2,z.2⟩
    | R j d t c=>cases e; exact ⟨_,c,h.1,z.1,rfl,rfl,h.2.2,z.2⟩
  refine ⟨rfl,R.newL (n:=n + 1) fun p hp=>?_⟩
  let Inv:(Option Nat × C)→Lc→Hp→Prop:=fun s ρ σ'=>∃ vs,ρ = [some (opt s.1),some (.ref p),none]∧σ' p = some (.list vs)∧Keep [] σ σ'∧(∀ v ∈ vs,Zr σ v)∧vs.length + s.2.len < 901 + (if s.1.isSome then 0 else 1) ∧
    (∀ i,s.1 = some i→∃ nd,σ i = some (.node nd)∧nd.offset = 0∧nd.parent = s.2.pid∧CtxAt σ tr cnt s.2 (some i)∧s.2.Z0)
  refine R.while (n:=n + 1) (fun s:Option Nat × C=>s.2.len + (if s.1.isSome then 1 else 0)) Inv (some x,c) ⟨[],rfl,upd_same ..,Keep.upd' Keep.refl hp,(fun _ h=>nomatch h),?_,fun i e=>by cases e; exact ⟨_,S.node,h0,rfl,S.ctx,cz⟩⟩ ?_
  · show 0 + c.len < 901; omega
  rintro ⟨o,c⟩ ρ σ1 ⟨vs,rfl,hl,K,G,hz,ho⟩
  cases o with
  | none =>
    refine ⟨false,ev_isNone (o:=none) rfl,fun _=>?_,(fun q=>nomatch q)⟩
    have hz':vs.length < 902:=by have:vs.length + c.len < 902:=hz; omega
    refine R.forRev (n:=n + 1) (l:=p) rfl hl (by omega) fun q hq=>?_
    refine forGo_rule (fun rest ρ' σ'=>(∃ a,ρ' = [some .none,some (.ref p),a])∧(∀ v ∈ rest,Zr σ v)∧Keep [] σ σ'∧σ' q = some (.list vs.reverse)) ?_ ?_ vs.reverse _ _ ⟨⟨none,rfl⟩,fun v hv=>G v (List.mem_reverse.mp hv),fun z x hz e=>(upd_ne _ _ (fun e'=>by rw [e'] at e; have:=K _ _ (fun h=>nomatch h) e; rw [hq] at this; cases this)).trans (K z x hz e),upd_same ..⟩
    · rintro v rest ρ' σ' J ⟨⟨a,rfl⟩,g,K',hq'⟩ hJ
      obtain ⟨i,nd,rfl,e1,e2⟩:=g v (.head _)
      exact R.call (n:=n + 1) (vs:=[.ref i]) rfl (handDown_zero (n:=n) (K' _ _ (fun h=>nomatch h) e1) e2 ⟨hq',hJ _ _ ⟨⟨_,rfl⟩,fun v hv=>g v (.tail _ hv),K',hq'⟩⟩)
    · rintro ρ' σ' ⟨_,_,K',_⟩
      exact Fq.now (fl:=.next) (k σ' K')
  | some i =>
    refine ⟨true,ev_isNone (o:=some i) rfl,(fun q=>nomatch q),fun _ J hJ=>?_⟩
    obtain ⟨nd,e1,e2,e3,hc,z⟩:=ho i rfl
    have e3:nd.parent = c.pid:=e3
    have hz':vs.length + c.len < 901:=hz
    refine R.append (l:=p) (w:=.ref i) rfl rfl hl (by omega) ?_
    have e1':upd σ1 p (.list (vs ++ [.ref i])) i = some (.node nd):=(upd_ne _ _ (fun q=>by have:=K _ _ (fun h=>nomatch h) e1; rw [q,hl] at this; cases this)).trans (K _ _ (fun h=>nomatch h) e1)
    refine R.assign (v:=opt c.pid) ((ev_attr (e:=.var 0) (f:=.parent) rfl e1').trans (by show some (opt nd.parent) = _; rw [e3])) ?_
    have G':∀ v ∈ vs ++ [.ref i],Zr σ v:=fun v hv=>by
      rcases List.mem_append.mp hv with hv | hv
      · exact G v hv
      · rw [List.mem_singleton.mp hv]; exact ⟨i,nd,rfl,e1,e2⟩
    cases q:c.pid with
    | none =>
      have ct:c = .top:=by cases c <;> first | rfl | cases q
      subst ct
      refine hJ (none,.top) _ _ ?_ ⟨vs ++ [.ref i],rfl,upd_same ..,Keep.upd' K hp,G',?_,(fun i e=>nomatch e)⟩
      · show 0 + 0 < 0 + 1; omega
      · rw [List.length_append]; show vs.length + 1 + 0 < 902; have:vs.length + 0 < 901:=hz'; omega
    | some j =>
      obtain ⟨nd',c',f1,f2,f3,f4,f5,f6⟩:=up c _ hc z j q
      refine hJ (some j,c') _ _ ?_ ⟨vs ++ [.ref i],rfl,upd_same ..,Keep.upd' K hp,G',?_,fun i' e=>by cases e; exact ⟨nd',f1,f2,f3,f5,f6⟩⟩
      · show c'.len + 1 < c.len + 1; omega
      · rw [List.length_append]; show vs.length + 1 + c'.len < 901; omega
noncomputable def C.ext:C→C→C
  | .top,c=>c
  | .L i d t a,c=>.L i d t (a.ext c)
  | .R i d t a,c=>.R i d t (a.ext c)
noncomputable def C.isLs:C→Prop
  | .top=>True
  | .L _ _ _ c=>c.isLs
  | .R _ _ _ _=>False
theorem firstBelow_ok {n:Nat} {Q:SV→Hp→Prop} {σ:Hp} {tr:Nat} {cnt:Int} {V:List En} {c:C} {x:Nat} {d:Dt} {l r:T} (S:St σ tr cnt V c (.nd x d l r)) (hz:(T.nd x d l r).Z)
    (k:∀ a g dg gr,St σ tr cnt V (a.ext c) (.nd g dg .nil gr)→a.isLs→plug a (.nd g dg .nil gr) = .nd x d l r→a.Z→(T.nd g dg .nil gr).Z→Q (.ref g) σ):wpFn fnD (n + 3) .firstBelow [.ref x] Q σ:=by
  refine ⟨rfl,R.call (n:=n + 1) rfl (handDown_zero (n:=n) S.node hz.1 ?_)⟩
  let Inv:(C × T)→Lc→Hp→Prop:=fun s ρ σ'=>σ' = σ∧ρ = [some (opt s.2.root)]∧St σ tr cnt V (s.1.ext c) s.2∧s.1.isLs∧plug s.1 s.2 = .nd x d l r∧s.1.Z∧s.2.Z∧s.2 ≠ .nil
  refine R.while (n:=n + 1) (fun s:C × T=>s.2.size) Inv (.top,.nd x d l r) ⟨rfl,rfl,S,trivial,rfl,trivial,hz,(fun q=>nomatch q)⟩ ?_
  rintro ⟨a,t⟩ ρ σ' ⟨rfl,rfl,S',hL,hp,az,tz,hne⟩
  cases t with
  | nil=>exact absurd rfl hne
  | nd g dg gl gr =>
    have S':St σ' tr cnt V (a.ext c) (.nd g dg gl gr):=S'
    refine ⟨!gl.root.isNone,(ev_isNone (o:=gl.root) (ev_attr (e:=.var 0) (f:=.left) rfl S'.node)).trans (by simp),fun q=>?_,fun q J hJ=>?_⟩
    · cases gl with
      | nil=>exact R.ret (v:=.ref g) rfl (Fq.now (fl:=.ret (.ref g)) (k a g dg gr S' hL hp az tz))
      | nd j e jl jr=>cases q
    · cases gl with
      | nil=>cases q
      | nd j e jl jr =>
        have S2:=S'.downL
        refine R.assign (v:=.ref j) (ev_attr (e:=.var 0) (f:=.left) rfl S'.node) (R.call rfl (handDown_zero (n:=n) S2.node tz.2.1.1 ?_))
        refine hJ (.L g dg gr a,.nd j e jl jr) _ σ' ?_ ⟨rfl,rfl,S2,hL,hp,⟨tz.1,tz.2.2,az⟩,tz.2.1,(fun q=>nomatch q)⟩
        show jl.size + jr.size + 1 < (jl.size + jr.size + 1) + gr.size + 1
        omega
end Mine
namespace Mine
noncomputable def C.U:C→Nat→Bool→Prop
  | .top,_,_=>True
  | .L _ d t c,h,b=>(d.red = true→b = false∧t.isRed = false)∧t.NR∧t.BH h∧t.Lim∧t.Z∧d.offset = 0∧c.U (h + (if d.red then 0 else 1)) d.red
  | .R _ d t c,h,b=>(d.red = true→t.isRed = false∧b = false)∧t.NR∧t.BH h∧t.Lim∧t.Z∧d.offset = 0∧c.U (h + (if d.red then 0 else 1)) d.red
theorem C.U.BH:∀ {c:C} {h:Nat} {b:Bool},c.U h b→c.BH h
  | .top,_,_,_=>trivial
  | .L _ _ _ c,_,_,q=>⟨q.2.2.1,C.U.BH (c:=c) q.2.2.2.2.2.2⟩
  | .R _ _ _ c,_,_,q=>⟨q.2.2.1,C.U.BH (c:=c) q.2.2.2.2.2.2⟩
theorem C.U.NR:∀ {c:C} {h:Nat} {b:Bool},c.U h b→c.NR b
  | .top,_,_,_=>trivial
  | .L _ _ _ c,_,_,q=>⟨q.1,q.2.1,C.U.NR (c:=c) q.2.2.2.2.2.2⟩
  | .R _ _ _ c,_,_,q=>⟨q.1,q.2.1,C.U.NR (c:=c) q.2.2.2.2.2.2⟩
theorem C.U.Z:∀ {c:C} {h:Nat} {b:Bool},c.U h b→c.Z
  | .top,_,_,_=>trivial
  | .L _ _ _ c,_,_,q=>⟨q.2.2.2.2.2.1,q.2.2.2.2.1,C.U.Z (c:=c) q.2.2.2.2.2.2⟩
  | .R _ _ _ c,_,_,q=>⟨q.2.2.2.2.2.1,q.2.2.2.2.1,C.U.Z (c:=c) q.2.2.2.2.2.2⟩
theorem C.U.weak {c:C} {h:Nat} {b:Bool} (q:c.U h b):c.U h false:=by
  cases c with
  | top=>trivial
  | L i d t c=>exact ⟨fun e=>⟨rfl,(q.1 e).2⟩,q.2⟩
  | R i d t c=>exact ⟨fun e=>⟨(q.1 e).1,rfl⟩,q.2⟩
theorem C.Z.z0:∀ {c:C},c.Z→c.Z0
  | .top,_=>trivial
  | .L _ _ _ c,q=>⟨q.1,C.Z.z0 (c:=c) q.2.2⟩
  | .R _ _ _ c,q=>⟨q.1,C.Z.z0 (c:=c) q.2.2⟩
noncomputable def C.relim:C→Option Int→C
  | .top,_=>.top
  | .L i d t c,x=>.L i { d with limit:=mxo (mxo d.end_ x) t.lim } t (c.relim (some (mxo (mxo d.end_ x) t.lim + d.offset)))
  | .R i d t c,x=>.R i { d with limit:=mxo (mxo d.end_ t.lim) x } t (c.relim (some (mxo (mxo d.end_ t.lim) x + d.offset)))
theorem relim_U:∀ {c:C} {x:Option Int} {h:Nat} {b:Bool},c.U h b→(c.relim x).U h b
  | .top,_,_,_,_=>trivial
  | .L _ _ _ c,_,_,_,h=>⟨h.1,h.2.1,h.2.2.1,h.2.2.2.1,h.2.2.2.2.1,h.2.2.2.2.2.1,relim_U (c:=c) h.2.2.2.2.2.2⟩
  | .R _ _ _ c,_,_,_,h=>⟨h.1,h.2.1,h.2.2.1,h.2.2.2.1,h.2.2.2.2.1,h.2.2.2.2.2.1,relim_U (c:=c) h.2.2.2.2.2.2⟩
theorem relim_Lim:∀ {c:C} {x:Option Int} {h:Nat} {b:Bool},c.U h b→(c.relim x).Lim x
  | .top,_,_,_,_=>trivial
  | .L _ _ _ c,_,_,_,⟨_,_,_,a4,_,_,a7⟩=>⟨rfl,a4,relim_Lim (c:=c) a7⟩
  | .R _ _ _ c,_,_,_,⟨_,_,_,a4,_,_,a7⟩=>⟨rfl,a4,relim_Lim (c:=c) a7⟩
theorem relim_rr:∀ {c:C} {x:Option Int} {b:Bool},(c.relim x).rr b = c.rr b
  | .top,_,_=>rfl
  | .L _ d _ c,_,_=>relim_rr (c:=c) (b:=d.red)
  | .R _ d _ c,_,_=>relim_rr (c:=c) (b:=d.red)
theorem relim_pid {c:C} {x:Option Int}:(c.relim x).pid = c.pid:=by cases c <;> rfl
theorem unplug:∀ {c:C} {t:T},(∃ h,(plug c t).BH h)→(plug c t).NR→(plug c t).Lim→(plug c t).Z→∃ h,t.BH h∧c.U h t.isRed∧t.NR∧t.Lim∧t.Z
  | .top,t,⟨h,b⟩,n,l,z=>⟨h,b,trivial,n,l,z⟩
  | .L i d s c,t,b,n,l,z=>by
    obtain ⟨h,⟨k,b1,b2,hk⟩,u,n1,l1,z1⟩:=unplug (c:=c) (t:=.nd i d t s) b n l z
    subst hk
    exact ⟨k,b1,⟨n1.1,n1.2.2,b2,l1.2.2,z1.2.2,z1.1,u⟩,n1.2.1,l1.2.1,z1.2.1⟩
  | .R i d s c,t,b,n,l,z=>by
    obtain ⟨h,⟨k,b1,b2,hk⟩,u,n1,l1,z1⟩:=unplug (c:=c) (t:=.nd i d s t) b n l z
    subst hk
    exact ⟨k,b2,⟨n1.1,n1.2.1,b1,l1.2.1,z1.2.1,z1.1,u⟩,n1.2.2,l1.2.2,z1.2.2⟩
theorem ext_U {x g:Nat} {d d':Dt} {l:T} {c:C} (hr:d'.red = d.red) (ho:d'.offset = 0):∀ {a:C} {h:Nat} {b:Bool},(a.ext (.R x d l c)).U h b→(a.ext (.R g d' l c)).U h b
  | .top,_,_,h=>⟨by rw [hr]; exact h.1,h.2.1,h.2.2.1,h.2.2.2.1,h.2.2.2.2.1,ho,by rw [hr]; exact h.2.2.2.2.2.2⟩
  | .L _ _ _ a,_,_,h=>⟨h.1,h.2.1,h.2.2.1,h.2.2.2.1,h.2.2.2.2.1,h.2.2.2.2.2.1,ext_U hr ho (a:=a) h.2.2.2.2.2.2⟩
  | .R _ _ _ a,_,_,h=>⟨h.1,h.2.1,h.2.2.1,h.2.2.2.1,h.2.2.2.2.1,h.2.2.2.2.2.1,ext_U hr ho (a:=a) h.2.2.2.2.2.2⟩
theorem ext_rr {x g:Nat} {d d':Dt} {l:T} {c:C} (hr:d'.red = d.red):∀ {a:C} {b:Bool},(a.ext (.R g d' l c)).rr b = (a.ext (.R x d l c)).rr b
  | .top,_=>by show c.rr d'.red = c.rr d.red; rw [hr]
  | .L _ e _ a,_=>ext_rr hr (a:=a) (b:=e.red)
  | .R _ e _ a,_=>ext_rr hr (a:=a) (b:=e.red)
theorem St.upExt {σ:Hp} {tr:Nat} {cnt:Int} {V:List En} {c:C}:∀ {a:C} {t:T},St σ tr cnt V (a.ext c) t→St σ tr cnt V c (plug a t)
  | .top,_,S=>S
  | .L i d s a,t,S=>St.upExt (a:=a) (t:=.nd i d t s) S.upL
  | .R i d s a,t,S=>St.upExt (a:=a) (t:=.nd i d s t) S.upR
theorem St.downExt {σ:Hp} {tr:Nat} {cnt:Int} {V:List En} {c:C}:∀ {a:C} {t:T},St σ tr cnt V c (plug a t)→St σ tr cnt V (a.ext c) t
  | .top,_,S=>S
  | .L i d s a,t,S=>(St.downExt (a:=a) (t:=.nd i d t s) S).downL
  | .R i d s a,t,S=>(St.downExt (a:=a) (t:=.nd i d s t) S).downR
noncomputable def rlLoop:S:=.while (.is true (.var 6) .none) (.cons (.setattr (.var 6) .limit (.call .greatestEnd (.cons (.var 6) .nil))) (.cons (.assign 6 (.attr (.var 6) .parent)) .nil))
theorem relim_ok {n:Nat} {Q:Fl→Lc→Hp→Prop} {σ:Hp} {tr:Nat} {cnt:Int} {V:List En} {c:C} {t:T} {r:Ss} {a0 a1 a2 a3 a4 a5:Option SV} (S:St σ tr cnt V c t)
    (k:∀ σ',St σ' tr cnt V (c.relim t.lim) t→KV tr V σ σ'→W n r Q [a0,a1,a2,a3,a4,a5,some .none] σ'):W n (.cons rlLoop r) Q [a0,a1,a2,a3,a4,a5,some (opt c.pid)] σ:=by
  refine R.while (fun s:C × T=>s.1.len) (fun s ρ σ'=>ρ = [a0,a1,a2,a3,a4,a5,some (opt s.1.pid)]∧St σ' tr cnt V s.1 s.2∧∀ σ'',St σ'' tr cnt V (s.1.relim s.2.lim) s.2→KV tr V σ' σ''→W n r Q [a0,a1,a2,a3,a4,a5,some .none] σ'') (c,t) ⟨rfl,S,k⟩ ?_
  rintro ⟨c,t⟩ ρ σ' ⟨rfl,S,k⟩
  cases c with
  | top=>exact ⟨false,ev_isNone (o:=none) rfl,fun _=>k σ' S Keep.refl,(fun q=>nomatch q)⟩
  | L i d s c =>
    refine ⟨true,ev_isNone (o:=some i) rfl,(fun q=>nomatch q),fun _ J hJ=>?_⟩
    have S':St σ' tr cnt V (.L i d s c) t:=S
    refine R.set S'.upL (d':={ d with limit:=mxo (mxo d.end_ t.lim) s.lim }) (ev_gE (e:=.var 6) rfl S'.upL.node S'.tree S'.ctx.2.1) rfl rfl (fun _=>rfl) rfl fun σ1 S1 K1=>?_
    exact R.assign (v:=opt c.pid) (ev_attr (e:=.var 6) rfl S1.node) (hJ (c,_) _ σ1 (Nat.lt_succ_self _) ⟨rfl,S1,fun σ'' S'' K''=>k σ'' S''.downL (K1.trans K'')⟩)
  | R i d s c =>
    refine ⟨true,ev_isNone (o:=some i) rfl,(fun q=>nomatch q),fun _ J hJ=>?_⟩
    have S':St σ' tr cnt V (.R i d s c) t:=S
    refine R.set S'.upR (d':={ d with limit:=mxo (mxo d.end_ s.lim) t.lim }) (ev_gE (e:=.var 6) rfl S'.upR.node S'.ctx.2.1 S'.tree) rfl rfl (fun _=>rfl) rfl fun σ1 S1 K1=>?_
    exact R.assign (v:=opt c.pid) (ev_attr (e:=.var 6) rfl S1.node) (hJ (c,_) _ σ1 (Nat.lt_succ_self _) ⟨rfl,S1,fun σ'' S'' K''=>k σ'' S''.downR (K1.trans K'')⟩)
theorem St.setCnt {σ:Hp} {tr:Nat} {cnt:Int} {V:List En} {c:C} {t:T} (S:St σ tr cnt V c t):∃ r0,σ tr = some (.tree ⟨r0,cnt⟩)∧∀ cnt',St (upd σ tr (.tree ⟨r0,cnt'⟩)) tr cnt' V c t:=by
  have h:=S.up.ctx
  have nd:=S.nd'
  rw [List.nodup_cons,List.mem_append,List.mem_append,not_or,not_or] at nd
  exact ⟨_,h,fun cnt'=>⟨S.ctx.cnt nd.1.1 nd.1.2.2 _ h,S.tree.frame fun j hj=>upd_ne _ _ fun q=>nd.1.2.1 (q ▸ hj),S.nd,S.vals⟩⟩
theorem unlink_ok {n:Nat} {Q:SV→Hp→Prop} {σ:Hp} {tr:Nat} {cnt:Int} {V:List En} {c:C} {g:Nat} {dg:Dt} {gl gr s:T} (S:St σ tr cnt V c (.nd g dg gl gr)) (hs:(gl = .nil∧s = gr) ∨ (gr = .nil∧s = gl)) (hz:dg.offset = 0)
    (k:∀ σ',St σ' tr cnt (c.vpre ++ (s.vals c.off ++ c.vpost)) c s→σ' g = some (nodeO dg gl.root gr.root c.pid)→KV tr V σ σ'→Q .none σ'):wpFn fnD (n + 2) .hang [.ref tr,opt c.pid,.ref g,opt s.root] Q σ:=by
  have ap:=S.apart
  have nd:=S.nd'
  have V0:=S.vals
  have ts:TreeAt σ s (some g):=by rcases hs with ⟨_,rfl⟩ | ⟨_,rfl⟩; exact S.tree.2.2; exact S.tree.2.1
  have sub:(s.ids).Sublist (T.nd g dg gl gr).ids:=by
    rcases hs with ⟨_,rfl⟩ | ⟨_,rfl⟩
    · exact (List.sublist_cons_self _ _).trans (List.sublist_append_right _ _)
    · exact List.sublist_append_left _ _
  have gs:g ∉ s.ids:=by rcases hs with ⟨_,rfl⟩ | ⟨_,rfl⟩; exact ap.2.1; exact ap.1
  have nd2:(tr :: (c.pre ++ (s.ids ++ c.post))).Nodup:=nd.sublist ((List.Sublist.append (List.Sublist.refl _) (List.Sublist.append sub (List.Sublist.refl _))).cons₂ tr)
  have nd3:(tr :: (c.pre ++ c.post)).Nodup:=nd2.sublist ((List.Sublist.append (List.Sublist.refl _) (List.sublist_append_right _ _)).cons₂ tr)
  have ndV:(tr :: (c.vpre ++ (s.vals c.off ++ c.vpost)).map (·.i)).Nodup:=by rw [List.map_append,List.map_append,C.ids_pre,T.ids_vals,C.ids_post]; exact nd2
  have hx:g ∉ c.pre:=fun q=>ap.2.2.2 g (.inl q) rfl
  have kg:c.key tr ≠ g:=by
    rcases c.key_mem tr with q | q
    · rw [q]; exact ap.2.2.1
    · exact ap.2.2.2 _ q
  have mem:c.key tr ∈ tr :: V.map (·.i):=by
    rw [S.ids]
    rcases c.key_mem tr with q | q | q
    · rw [q]; exact .head _
    · exact .tail _ (List.mem_append_left _ q)
    · exact .tail _ (List.mem_append_right _ (List.mem_append_right _ q))
  have ks:c.key tr ∉ s.ids:=by
    rw [List.nodup_cons] at nd2
    rcases c.key_mem tr with q | q | q
    · rw [q]; exact fun h=>nd2.1 (List.mem_append_right _ (List.mem_append_left _ h))
    · exact fun h=>(List.nodup_append.mp nd2.2).2.2 _ q _ (List.mem_append_left _ h) rfl
    · exact fun h=>(List.nodup_append.mp (List.nodup_append.mp nd2.2).2.1).2.2 _ h _ q rfl
  cases s with
  | nil =>
    refine hang_none S.ctx hx S.alive (k _ ⟨S.ctx.rechild nd3,trivial,ndV,rfl⟩ ((upd_ne _ _ (Ne.symm kg)).trans S.node) (Keep.put mem))
  | nd j e jl jr =>
    have jm:j ∈ (T.nd j e jl jr).ids:=List.mem_append_right _ (.head _)
    have jn:(T.nd j e jl jr).ids.Nodup:=by
      rw [List.nodup_cons] at nd2
      exact (List.nodup_append.mp (List.nodup_append.mp nd2.2).2.1).1
    have jk:j ≠ c.key tr:=fun q=>ks (q ▸ jm)
    have jg:g ≠ j:=fun q=>gs (q ▸ jm)
    refine hang_some S.ctx hx S.alive ts.1 jk (k _ ⟨?_,?_,ndV,rfl⟩ ((upd_ne _ _ jg).trans ((upd_ne _ _ (Ne.symm kg)).trans S.node)) ((Keep.put mem).trans (Keep.put ?_)))
    · refine (S.ctx.rechild nd3).frame (fun z hz=>upd_ne _ _ fun q=>?_) (upd_ne _ _ fun q=>?_)
      · rw [List.nodup_cons] at nd2
        rcases hz with hz | hz
        · exact (List.nodup_append.mp nd2.2).2.2 z hz z (List.mem_append_left _ (q ▸ jm)) rfl
        · exact (List.nodup_append.mp (List.nodup_append.mp nd2.2).2.1).2.2 z (q ▸ jm) z hz rfl
      · rw [List.nodup_cons] at nd2
        exact nd2.1 (List.mem_append_right _ (List.mem_append_left _ (q ▸ jm)))
    · exact (ts.frame (σ':=upd σ (c.key tr) (c.obj cnt (some j))) fun z hz=>upd_ne _ _ fun q=>ks (q ▸ hz)).reparent jn
    · rw [S.ids]
      exact .tail _ (List.mem_append_right _ (List.mem_append_left _ (sub.subset jm)))
end Mine
namespace Mine
theorem tp_son {n:Nat} {σ:Hp} {t:T} {p:Option Nat} {g:Nat} {a0 a1:Option SV} {K:Fl→Lc→Hp→Prop} (ht:TreeAt σ t p) (hn:t.ids.Nodup)
    (k:∀ σ',TreeAt σ' t (some g)→(∀ z,some z ≠ t.root→σ' z = σ z)→K .next [a0,a1,some (.ref g),some (opt t.root)] σ') :
    wpSs (wpFn fnD (n + 1)) (.cons (.ite (.is true (.var 3) .none) (.cons (.setattr (.var 3) .parent (.var 2)) .nil) .nil) .nil) K [a0,a1,some (.ref g),some (opt t.root)] σ:=by
  cases t with
  | nil=>exact R.iteF (n:=n) (ev_isNone (o:=none) rfl) rfl (k σ trivial fun _ _=>rfl)
  | nd i d l r=>exact R.iteT (n:=n) (ev_isNone (o:=some i) rfl) rfl (R.setattr (a:=i) (w:=.ref g) (so':=nodeO d l.root r.root (some g)) rfl rfl ht.1 rfl (k _ (ht.reparent hn) fun z hz=>upd_ne _ _ fun q=>hz (by rw [q]; rfl)))
theorem takePlace_ok {n:Nat} {Q:SV→Hp→Prop} {σ:Hp} {tr:Nat} {cnt:Int} {V:List En} {c:C} {x g:Nat} {d dg:Dt} {l r:T} {ga gb gp:Option Nat} (S:St σ tr cnt V c (.nd x d l r)) (hg:σ g = some (nodeO dg ga gb gp)) (hgn:g ∉ tr :: V.map (·.i)) (h0:d.offset = 0) (h1:dg.offset = 0) (cz:c.Z0)
    (k:∀ σ' d',d'.red = d.red→d'.offset = 0→d'.limit = gEnd d' l r→St σ' tr cnt (c.vpre ++ ((l.vals c.off ++ dg.en g 0 :: r.vals c.off) ++ c.vpost)) c (.nd g d' l r)→σ' x = some (nodeO d l.root r.root c.pid)→Keep (g :: tr :: V.map (·.i)) σ σ'→Q .none σ') :
    wpFn fnD (n + 3) .takePlace [.ref tr,.ref x,.ref g] Q σ:=by
  have ap:=S.apart
  have nd:=S.nd'
  have off:=C.Z0_off cz
  have hids:=S.ids
  have fac:l.ids.Nodup∧r.ids.Nodup∧(∀ j ∈ l.ids,j ∉ r.ids∧tr ≠ j∧j ∉ c.pre∧j ∉ c.post)∧(∀ j ∈ r.ids,j ∉ l.ids∧tr ≠ j∧j ∉ c.pre∧j ∉ c.post)∧(tr :: (c.pre ++ c.post)).Nodup:=by
    exact ⟨S.ap.nX,S.ap.nY,fun j hj=>⟨(S.ap.XS j hj).1,(S.ap.XS j hj).2.1,fun q=>(S.ap.XS j hj).2.2 j (.inl q) rfl,fun q=>(S.ap.XS j hj).2.2 j (.inr q) rfl⟩,fun j hj=>⟨(S.ap.YS j hj).1,(S.ap.YS j hj).2.1,fun q=>(S.ap.YS j hj).2.2 j (.inl q) rfl,fun q=>(S.ap.YS j hj).2.2 j (.inr q) rfl⟩,S.ap.cn⟩
  obtain ⟨f1,f2,f3,f4,f5⟩:=fac
  have gn:g ≠ tr∧g ∉ c.pre∧g ∉ c.post∧g ∉ l.ids∧g ∉ r.ids∧g ≠ x:=by
    rw [hids] at hgn
    simp only [T.ids,List.mem_cons,List.mem_append,not_or] at hgn
    exact ⟨hgn.1,hgn.2.1,hgn.2.2.2,hgn.2.2.1.1,hgn.2.2.1.2.2,hgn.2.2.1.2.1⟩
  obtain ⟨g1,g2,g3,g4,g5,g6⟩:=gn
  have kk:=c.key_mem tr
  have gk:g ≠ c.key tr:=fun q=>by rcases kk with e | e | e; exact g1 (q.trans e); exact g2 (q ▸ e); exact g3 (q ▸ e)
  have xk:x ≠ c.key tr:=fun q=>by rcases kk with e | e; exact ap.2.2.1 (e ▸ q.symm); exact ap.2.2.2 _ e q.symm
  have lk:c.key tr ∉ l.ids:=fun q=>by rcases kk with e | e | e; exact (f3 _ q).2.1 e.symm; exact (f3 _ q).2.2.1 e; exact (f3 _ q).2.2.2 e
  have rk:c.key tr ∉ r.ids:=fun q=>by rcases kk with e | e | e; exact (f4 _ q).2.1 e.symm; exact (f4 _ q).2.2.1 e; exact (f4 _ q).2.2.2 e
  have km:c.key tr ∈ g :: tr :: V.map (·.i):=by
    rw [hids]
    rcases kk with q | q | q
    · rw [q]; exact .tail _ (.head _)
    · exact .tail _ (.tail _ (List.mem_append_left _ q))
    · exact .tail _ (.tail _ (List.mem_append_right _ (List.mem_append_right _ q)))
  refine ⟨rfl,R.call (n:=n + 1) (vs:=[.ref tr,opt c.pid,.ref x,.ref g]) ?_ (hang_some S.ctx (fun q=>ap.2.2.2 x (.inl q) rfl) S.alive hg gk ?_)⟩
  · show ((ev σ _ (.attr (.var 1) .parent)).bind _).map _ = _
    rw [ev_attr (e:=.var 1) rfl S.node]
    rfl
  have c1:CtxAt (upd (upd σ (c.key tr) (c.obj cnt (some g))) g (nodeO dg ga gb c.pid)) tr cnt c (some g):=(S.ctx.rechild f5).frame (fun z hz=>upd_ne _ _ fun q=>by rcases hz with hz | hz; exact g2 (q ▸ hz); exact g3 (q ▸ hz)) (upd_ne _ _ (Ne.symm g1))
  have l1:TreeAt (upd (upd σ (c.key tr) (c.obj cnt (some g))) g (nodeO dg ga gb c.pid)) l (some x):=S.tree.2.1.frame fun z hz=>(upd_ne _ _ fun q:z = g=>g4 (q ▸ hz)).trans (upd_ne _ _ fun q=>lk (q ▸ hz))
  have r1:TreeAt (upd (upd σ (c.key tr) (c.obj cnt (some g))) g (nodeO dg ga gb c.pid)) r (some x):=S.tree.2.2.frame fun z hz=>(upd_ne _ _ fun q:z = g=>g5 (q ▸ hz)).trans (upd_ne _ _ fun q=>rk (q ▸ hz))
  have x1:upd (upd σ (c.key tr) (c.obj cnt (some g))) g (nodeO dg ga gb c.pid) x = some (nodeO d l.root r.root c.pid):=(upd_ne _ _ (Ne.symm g6)).trans ((upd_ne _ _ xk).trans S.node)
  have e1:upd (upd σ (c.key tr) (c.obj cnt (some g))) g (nodeO dg ga gb c.pid) g = _:=upd_same ..
  have K1:Keep (g :: tr :: V.map (·.i)) σ (upd (upd σ (c.key tr) (c.obj cnt (some g))) g (nodeO dg ga gb c.pid)):=(Keep.put km).trans (Keep.put (.head _))
  generalize upd (upd σ (c.key tr) (c.obj cnt (some g))) g (nodeO dg ga gb c.pid) = σ1 at *
  refine R.setattr (a:=g) (w:=opt l.root) (so':=nodeO dg l.root gb c.pid) ((ev_attr (e:=.var 1) (f:=.left) rfl x1).trans rfl) rfl e1 (by show (Nd.set _ _ _).map SO.node = _; unfold Nd.set; rw [unopt_opt]; rfl) ?_
  have e2:upd σ1 g (nodeO dg l.root gb c.pid) g = _:=upd_same ..
  have f2':∀ z,z ≠ g→upd σ1 g (nodeO dg l.root gb c.pid) z = σ1 z:=fun z hz=>upd_ne _ _ hz
  generalize upd σ1 g (nodeO dg l.root gb c.pid) = σ2 at *
  refine R.setattr (a:=g) (w:=opt r.root) (so':=nodeO dg l.root r.root c.pid) ((ev_attr (e:=.var 1) (f:=.right) rfl ((f2' x (Ne.symm g6)).trans x1)).trans rfl) rfl e2 (by show (Nd.set _ _ _).map SO.node = _; unfold Nd.set; rw [unopt_opt]; rfl) ?_
  have e3:upd σ2 g (nodeO dg l.root r.root c.pid) g = _:=upd_same ..
  have f3':∀ z,z ≠ g→upd σ2 g (nodeO dg l.root r.root c.pid) z = σ1 z:=fun z hz=>(upd_ne _ _ hz).trans (f2' z hz)
  generalize upd σ2 g (nodeO dg l.root r.root c.pid) = σ3 at *
  refine R.setattr (a:=g) (w:=.bool d.red) (so':=nodeO { dg with red:=d.red } l.root r.root c.pid) ((ev_attr (e:=.var 1) (f:=.red) rfl ((f3' x (Ne.symm g6)).trans x1)).trans rfl) rfl e3 rfl ?_
  have e4:upd σ3 g (nodeO { dg with red:=d.red } l.root r.root c.pid) g = _:=upd_same ..
  have f4':∀ z,z ≠ g→upd σ3 g (nodeO { dg with red:=d.red } l.root r.root c.pid) z = σ1 z:=fun z hz=>(upd_ne _ _ hz).trans (f3' z hz)
  generalize upd σ3 g (nodeO { dg with red:=d.red } l.root r.root c.pid) = σ4 at *
  have l4:TreeAt σ4 l (some x):=l1.frame fun z hz=>f4' z fun q=>g4 (q ▸ hz)
  have r4:TreeAt σ4 r (some x):=r1.frame fun z hz=>f4' z fun q=>g5 (q ▸ hz)
  refine ev_ok (n:=n + 1) (e:=.attr (.var 2) .left) (v:=opt l.root) ((ev_attr (e:=.var 2) (f:=.left) rfl e4).trans rfl) (ev_ok (n:=n + 1) (e:=.attr (.var 2) .right) (v:=opt r.root) ((ev_attr (e:=.var 2) (f:=.right) rfl e4).trans rfl) ?_)
  refine tp_son (n:=n + 1) l4 f1 fun σ5 t5 f5'=>⟨trivial,?_⟩
  have r5:TreeAt σ5 r (some x):=r4.frame fun z hz=>f5' z fun q=>(f4 z hz).1 (T.root_mem q.symm)
  refine tp_son (n:=n + 1) r5 f2 fun σ6 t6 f6'=>⟨trivial,?_⟩
  have t5':TreeAt σ6 l (some g):=t5.frame fun z hz=>f6' z fun q=>(f3 z hz).1 (T.root_mem q.symm)
  have keep6:∀ z,z ≠ g→z ∉ l.ids→z ∉ r.ids→σ6 z = σ1 z:=fun z hz h2 h3=>(f6' z fun q=>h3 (T.root_mem q.symm)).trans ((f5' z fun q=>h2 (T.root_mem q.symm)).trans (f4' z hz))
  have e6:σ6 g = _:=(f6' g fun q=>g5 (T.root_mem q.symm)).trans ((f5' g fun q=>g4 (T.root_mem q.symm)).trans e4)
  refine R.setattr (n:=n + 1) (a:=g) (w:=.int (gEnd { dg with red:=d.red } l r)) (so':=nodeO { dg with red:=d.red,limit:=gEnd { dg with red:=d.red } l r } l.root r.root c.pid) (ev_gE (e:=.var 2) rfl e6 t5' t6) rfl e6 rfl ?_
  refine Fq.now (fl:=.next) (k _ { dg with red:=d.red,limit:=gEnd { dg with red:=d.red } l r } rfl h1 rfl ⟨?_,⟨upd_same ..,t5'.frame fun z hz=>upd_ne _ _ fun q=>g4 (q ▸ hz),t6.frame fun z hz=>upd_ne _ _ fun q=>g5 (q ▸ hz)⟩,?_,?_⟩ ?_ ?_)
  · refine c1.frame (fun z hz=>(upd_ne _ _ fun q=>by rcases hz with hz | hz; exact g2 (q ▸ hz); exact g3 (q ▸ hz)).trans (keep6 z (fun q=>by rcases hz with hz | hz; exact g2 (q ▸ hz); exact g3 (q ▸ hz)) (fun h=>by rcases hz with hz | hz; exact (f3 z h).2.2.1 hz; exact (f3 z h).2.2.2 hz) (fun h=>by rcases hz with hz | hz; exact (f4 z h).2.2.1 hz; exact (f4 z h).2.2.2 hz))) ((upd_ne _ _ (Ne.symm g1)).trans (keep6 tr (Ne.symm g1) (fun h=>(f3 tr h).2.1 rfl) (fun h=>(f4 tr h).2.1 rfl)))
  · rw [hids] at hgn
    simp only [List.map_append,List.map_cons,C.ids_pre,C.ids_post,T.ids_vals]
    show (tr :: (c.pre ++ (l.ids ++ g :: r.ids ++ c.post))).Nodup
    have P1:(tr :: (c.pre ++ (l.ids ++ g :: r.ids ++ c.post))).Perm (g :: tr :: (c.pre ++ (l.ids ++ r.ids ++ c.post))):=by
      have a:(l.ids ++ g :: r.ids ++ c.post).Perm (g :: (l.ids ++ r.ids ++ c.post)):=by
        rw [List.append_assoc,List.cons_append]
        exact (List.perm_middle).trans (by rw [List.append_assoc])
      exact ((((List.Perm.refl _).append a).trans List.perm_middle).cons tr).trans (List.Perm.swap _ _ _)
    have P2:(tr :: (c.pre ++ ((T.nd x d l r).ids ++ c.post))).Perm (x :: tr :: (c.pre ++ (l.ids ++ r.ids ++ c.post))):=by
      have a:(l.ids ++ x :: r.ids ++ c.post).Perm (x :: (l.ids ++ r.ids ++ c.post)):=by
        rw [List.append_assoc,List.cons_append]
        exact (List.perm_middle).trans (by rw [List.append_assoc])
      exact ((((List.Perm.refl _).append a).trans List.perm_middle).cons tr).trans (List.Perm.swap _ _ _)
    have n2:=P2.nodup_iff.mp nd
    rw [List.nodup_cons] at n2
    refine P1.nodup_iff.mpr (List.nodup_cons.mpr ⟨fun q=>?_,n2.2⟩)
    exact hgn (P2.mem_iff.mpr (.tail _ q))
  · show c.vpre ++ ((l.vals (c.off + dg.offset) ++ Dt.en g _ (c.off + dg.offset) :: r.vals (c.off + dg.offset)) ++ c.vpost) = _
    rw [h1,Int.add_zero,off]
    rfl
  · exact (upd_ne _ _ (Ne.symm g6)).trans ((keep6 x (Ne.symm g6) ap.1 ap.2.1).trans x1)
  · intro z o hz e
    have hz':=hz
    rw [hids] at hz'
    simp only [T.ids,List.mem_cons,List.mem_append,not_or] at hz'
    exact (upd_ne _ _ hz'.1).trans ((keep6 z hz'.1 hz'.2.2.2.1.1 hz'.2.2.2.1.2.2).trans (K1 z o hz e))
end Mine
namespace Mine
theorem evs1 {σ:Hp} {ρ:Lc} {e:E} {v:SV} (h:ev σ ρ e = some v):evs σ ρ (.cons e .nil) = some [v]:=by
  show (ev σ ρ e).bind _ = _
  rw [h]
  rfl
noncomputable def dnTail:Ss:=.cons (.assign 6 (.var 4)) (.cons rlLoop (.cons (.ite (.not (.var 5)) (.cons (.expr (.call .colourDropped (.cons (.var 0) (.cons (.var 3) (.cons (.var 4) .nil))))) .nil) .nil) (.cons (.setattr (.var 1) .left .none) (.cons (.setattr (.var 1) .right .none) (.cons (.setattr (.var 1) .parent .none) .nil)))))
theorem dn_tail {n:Nat} {Q:SV→Hp→Prop} {σ:Hp} {tr:Nat} {cnt:Int} {V:List En} {c:C} {s:T} {x h:Nat} {nx:Nd} {wr:Bool} {g6:Option SV} {gv:Option SV} (S:St σ tr cnt V c s) (hx:σ x = some (.node nx)) (hxn:x ∉ tr :: V.map (·.i))
    (sB:s.BH h) (sn:s.NR) (sl:s.Lim) (sz:s.Z) (U:c.U (h + (if wr then 0 else 1)) false) (rr:c.rr false = false) (hb:wr = true→s.isRed = false)
    (k:∀ σ' t',St σ' tr cnt V .top t'→OkZ t'→σ' x = some (.node { nx with left:=none,right:=none,parent:=none })→Keep (x :: tr :: V.map (·.i)) σ σ'→Q .none σ') :
    W (n + 6) dnTail (Fq Q) [some (.ref tr),some (.ref x),gv,some (opt s.root),some (opt c.pid),some (.bool wr),g6] σ:=by
  refine R.assign (v:=opt c.pid) rfl (relim_ok S fun σ1 S1 K1=>?_)
  have U1:=relim_U (x:=s.lim) U
  have L1:=relim_Lim (x:=s.lim) U
  have fin:∀ σ2 t',St σ2 tr cnt V .top t'→OkZ t'→KV tr V σ σ2→W (n + 6) (.cons (.setattr (.var 1) .left .none) (.cons (.setattr (.var 1) .right .none) (.cons (.setattr (.var 1) .parent .none) .nil))) (Fq Q)
      [some (.ref tr),some (.ref x),gv,some (opt s.root),some (opt c.pid),some (.bool wr),some .none] σ2:=fun σ2 t' S2 O2 K2=>by
    have x2:=K2 x _ hxn hx
    refine R.setattr (a:=x) (w:=.none) (so':=.node { nx with left:=none }) rfl rfl x2 rfl ?_
    have x3:upd σ2 x (.node { nx with left:=none }) x = _:=upd_same ..
    have f3:∀ z,z ≠ x→upd σ2 x (.node { nx with left:=none }) z = σ2 z:=fun z hz=>upd_ne _ _ hz
    generalize upd σ2 x (.node { nx with left:=none }) = σ3 at *
    refine R.setattr (a:=x) (w:=.none) (so':=.node { nx with left:=none,right:=none }) rfl rfl x3 rfl ?_
    have x4:upd σ3 x (.node { nx with left:=none,right:=none }) x = _:=upd_same ..
    have f4:∀ z,z ≠ x→upd σ3 x (.node { nx with left:=none,right:=none }) z = σ2 z:=fun z hz=>(upd_ne _ _ hz).trans (f3 z hz)
    generalize upd σ3 x (.node { nx with left:=none,right:=none }) = σ4 at *
    refine R.setattr (a:=x) (w:=.none) (so':=.node { nx with left:=none,right:=none,parent:=none }) rfl rfl x4 rfl (Fq.now (fl:=.next) (k _ t' (S2.out fun z hz=>(upd_ne _ _ fun q:z = x=>hxn (q ▸ hz)).trans (f4 z fun q=>hxn (q ▸ hz))) O2 (upd_same ..) ?_))
    intro z o hz e
    rw [List.mem_cons,not_or] at hz
    exact (upd_ne _ _ hz.1).trans ((f4 z hz.1).trans (K2 z o hz.2 e))
  cases wr with
  | true =>
    refine R.iteF (b:=false) rfl rfl (fin σ1 _ S1.up ?_ K1)
    have sb:=hb rfl
    exact OkZ.of sB U1.BH (by rw [sb]; exact U1.NR) sn (by rw [sb,relim_rr]; exact rr) L1 sl U1.Z sz
  | false =>
    refine R.iteT (b:=true) rfl rfl (R.call (vs:=[.ref tr,opt s.root,opt c.pid]) rfl ?_)
    rw [← relim_pid (c:=c) (x:=s.lim)]
    exact colourDropped_ok (n:=n) S1 ⟨sB,U1.BH,sn,U1.NR,sl,L1,sz,U1.Z,by rw [relim_rr]; exact rr⟩ fun σ2 t' S2 O2 K2=>by
      have:=fin σ2 t' S2 O2 (K1.trans K2)
      rw [← relim_pid (c:=c) (x:=s.lim)] at this
      exact this
theorem C.ext_top (a:C):a.ext .top = a:=by
  induction a with
  | top=>rfl
  | L i d t a ih=>show C.L i d t (a.ext .top) = _; rw [ih]
  | R i d t a ih=>show C.R i d t (a.ext .top) = _; rw [ih]
theorem C.ext_vals:∀ {a c:C},a.isLs→c.Z→a.Z→(a.ext c).vpre = c.vpre∧(a.ext c).vpost = a.vpost ++ c.vpost
  | .top,c,_,_,_=>⟨rfl,rfl⟩
  | .L i d t a,c,h,z,za=>by
    obtain ⟨p,q⟩:=C.ext_vals (a:=a) (c:=c) h z za.2.2
    have o1:(a.ext c).off = 0:=by
      have:∀ a:C,a.Z→(a.ext c).Z:=fun a=>by
        induction a with
        | top=>intro _; exact z
        | L _ _ _ _ ih=>intro q; exact ⟨q.1,q.2.1,ih q.2.2⟩
        | R _ _ _ _ ih=>intro q; exact ⟨q.1,q.2.1,ih q.2.2⟩
      exact C.Z0_off (this a za.2.2).z0
    have o2:a.off = 0:=C.Z0_off za.2.2.z0
    refine ⟨p,?_⟩
    show d.en i ((a.ext c).off + d.offset) :: t.vals ((a.ext c).off + d.offset) ++ (a.ext c).vpost = (d.en i (a.off + d.offset) :: t.vals (a.off + d.offset) ++ a.vpost) ++ c.vpost
    rw [q,o1,o2,List.append_assoc]
  | .R _ _ _ _,_,h,_,_=>h.elim
theorem plug_vals:∀ {a:C} {t:T},a.isLs→a.Z→(plug a t).vals 0 = t.vals 0 ++ a.vpost
  | .top,t,_,_=>(List.append_nil _).symm
  | .L i d s a,t,h,z=>by
    rw [plug,plug_vals (a:=a) h z.2.2]
    show (t.vals (0 + d.offset) ++ d.en i (0 + d.offset) :: s.vals (0 + d.offset)) ++ a.vpost = t.vals 0 ++ (d.en i (a.off + d.offset) :: s.vals (a.off + d.offset) ++ a.vpost)
    rw [z.1,C.Z0_off z.2.2.z0,List.append_assoc]
    rfl
  | .R _ _ _ _,_,h,_=>h.elim
theorem plug_ext:∀ {a c:C} {t:T},plug (a.ext c) t = plug c (plug a t)
  | .top,_,_=>rfl
  | .L i d s a,_,t=>plug_ext (a:=a) (t:=.nd i d t s)
  | .R i d s a,_,t=>plug_ext (a:=a) (t:=.nd i d s t)
theorem C.len_le:∀ c:C,c.len ≤ c.pre.length + c.post.length
  | .top=>Nat.le_refl _
  | .L i d t c=>by have:=C.len_le c; simp only [C.len,C.pre,C.post,List.length_append,List.length_cons]; omega
  | .R i d t c=>by have:=C.len_le c; simp only [C.len,C.pre,C.post,List.length_append,List.length_cons,List.length_nil]; omega
theorem dropNode_ok {n:Nat} {Q:SV→Hp→Prop} {σ:Hp} {tr:Nat} {cnt:Int} {V:List En} {c:C} {x:Nat} {d:Dt} {l r:T} (S:St σ tr cnt V c (.nd x d l r)) (O:OkZ (plug c (.nd x d l r))) (hV:V.length < 900)
    (k:∀ σ' t' A B,V = A ++ d.en x 0 :: B→St σ' tr (cnt - 1) (A ++ B) .top t'→OkZ t'→(∃ nx,σ' x = some (.node nx)∧nx.en x = d.en x 0)→Keep (tr :: V.map (·.i)) σ σ'→Q .none σ'):wpFn fnD (n + 8) .dropNode [.ref tr,.ref x] Q σ:=by
  obtain ⟨h,xB,U,xn,xl,xz⟩:=unplug O.bh O.nr O.lim O.z
  have rr:c.rr d.red = false:=plug_red.symm.trans O.rb
  have off:=C.Z0_off U.Z.z0
  have hclen:c.len < 900:=by
    have h1:=C.len_le c
    have h2:=congrArg List.length S.ids
    simp only [List.length_map,List.length_append] at h2
    omega
  have V0:V = c.vpre ++ l.vals 0 ++ d.en x 0 :: (r.vals 0 ++ c.vpost):=by
    rw [← S.vals,T.vals,off,xz.1]
    simp only [List.append_assoc,List.cons_append]
    rfl
  obtain ⟨r0,hr0,S0⟩:=S.setCnt
  refine ⟨rfl,R.setattr (n:=n + 6) (a:=tr) (w:=.int (cnt - 1)) (so':=.tree ⟨r0,cnt - 1⟩) (ev_sub (ev_attrT (e:=.var 0) rfl hr0) rfl) rfl hr0 rfl ?_⟩
  have S1:=S0 (cnt - 1)
  have K1:KV tr V σ (upd σ tr (.tree ⟨r0,cnt - 1⟩)):=Keep.put (.head _)
  generalize upd σ tr (.tree ⟨r0,cnt - 1⟩) = σ1 at *
  refine R.call rfl (handDownTo_ok (n:=n + 4) S1 xz.1 U.Z.z0 hclen fun σ2 K2=>?_)
  have S2:=S1.keep K2
  have KV2:KV tr V σ σ2:=K1.trans (K2.mono fun z hz=>nomatch hz)
  refine R.assign (v:=.ref x) rfl ?_
  have hxe:(mkN d l.root r.root c.pid).en x = d.en x 0:=by
    show En.mk x d.number d.begin_ d.end_ d.front d.rear = En.mk x d.number (d.begin_ + 0) (d.end_ + 0) d.front d.rear
    rw [Int.add_zero,Int.add_zero]
  have nodup:=S.nd
  have xV:∀ A B,V = A ++ d.en x 0 :: B→x ∉ tr :: (A ++ B).map (·.i)∧(∀ z ∈ x :: tr :: (A ++ B).map (·.i),z ∈ tr :: V.map (·.i)):=fun A B e=>by
    rw [e] at nodup ⊢
    have P:((A ++ d.en x 0 :: B).map (·.i)).Perm (x :: (A ++ B).map (·.i)):=(List.perm_middle (a:=d.en x 0)).map (·.i)
    rw [List.nodup_cons] at nodup
    have n2:=P.nodup_iff.mp nodup.2
    rw [List.nodup_cons] at n2
    refine ⟨fun q=>?_,fun z hz=>?_⟩
    · rcases List.mem_cons.mp q with q | q
      · exact nodup.1 (P.mem_iff.mpr (q ▸ .head _))
      · exact n2.1 q
    · rcases List.mem_cons.mp hz with q | q
      · exact .tail _ (P.mem_iff.mpr (q ▸ .head _))
      · rcases List.mem_cons.mp q with q | q
        · rw [q]; exact .head _
        · exact .tail _ (P.mem_iff.mpr (.tail _ q))
  -- one son at most
  have one:∀ s:T,((l = .nil∧s = r) ∨ (r = .nil∧s = l))→ev σ2 [some (.ref tr),some (.ref x),some (.ref x),none,none,none,none] (.ite (.is true (.attr (.var 2) .left) .none) (.attr (.var 2) .left) (.attr (.var 2) .right)) = some (opt s.root) →
      W (n + 6) (.cons (.assign 3 (.ite (.is true (.attr (.var 2) .left) .none) (.attr (.var 2) .left) (.attr (.var 2) .right))) (.cons (.assign 4 (.attr (.var 2) .parent)) (.cons (.assign 5 (.attr (.var 2) .red)) (.cons (.expr (.call .hang (.cons (.var 0) (.cons (.var 4) (.cons (.var 2) (.cons (.var 3) .nil)))))) (.cons (.ite (.is true (.var 2) (.var 1)) (.cons (.expr (.call .takePlace (.cons (.var 0) (.cons (.var 1) (.cons (.var 2) .nil))))) (.cons (.assign 4 (.ite (.is false (.var 4) (.var 1)) (.var 2) (.var 4))) .nil)) .nil) dnTail)))))
      (Fq Q) [some (.ref tr),some (.ref x),some (.ref x),none,none,none,none] σ2:=fun s hs e=>by
    refine R.assign e (R.assign (v:=opt c.pid) ((ev_attr (e:=.var 2) (f:=.parent) rfl S2.node).trans rfl) (R.assign (v:=.bool d.red) ((ev_attr (e:=.var 2) (f:=.red) rfl S2.node).trans rfl) ?_))
    refine R.call (vs:=[.ref tr,opt c.pid,.ref x,opt s.root]) rfl (unlink_ok (n:=n + 5) S2 hs xz.1 fun σ3 S3 x3 K3=>?_)
    refine R.iteF (b:=false) ((ev_isRef (p:=x) (q:=x) rfl rfl (by rw [x3]; rfl) (by rw [x3]; rfl)).trans (by simp)) rfl ?_
    obtain ⟨m,b1,b2,hm⟩:=xB
    have sv:V = c.vpre ++ s.vals 0 ++ d.en x 0 :: c.vpost ∨ V = c.vpre ++ d.en x 0 :: (s.vals 0 ++ c.vpost):=by
      rw [V0]
      rcases hs with ⟨rfl,rfl⟩ | ⟨rfl,rfl⟩
      · exact .inr (by show c.vpre ++ [] ++ _ = _; rw [List.append_nil])
      · exact .inl rfl
    rw [off] at S3
    obtain ⟨A,B,eV,eAB⟩:∃ A B,V = A ++ d.en x 0 :: B∧c.vpre ++ (s.vals 0 ++ c.vpost) = A ++ B:=by
      rcases sv with q | q
      · exact ⟨_,_,q,(List.append_assoc _ _ _).symm⟩
      · exact ⟨_,_,q,rfl⟩
    rw [eAB] at S3
    obtain ⟨xv1,xv2⟩:=xV A B eV
    have sB:s.BH m:=by rcases hs with ⟨_,rfl⟩ | ⟨_,rfl⟩; exact b2; exact b1
    have sn:s.NR:=by rcases hs with ⟨_,rfl⟩ | ⟨_,rfl⟩; exact xn.2.2; exact xn.2.1
    have sl:s.Lim:=by rcases hs with ⟨_,rfl⟩ | ⟨_,rfl⟩; exact xl.2.2; exact xl.2.1
    have sz:s.Z:=by rcases hs with ⟨_,rfl⟩ | ⟨_,rfl⟩; exact xz.2.2; exact xz.2.1
    have sb:d.red = true→s.isRed = false:=fun q=>by rcases hs with ⟨_,rfl⟩ | ⟨_,rfl⟩; exact (xn.1 q).2; exact (xn.1 q).1
    refine dn_tail (n:=n) (h:=m) S3 x3 xv1 sB sn sl sz ?_ (rr_false rr) sb fun σ4 t' S4 O4 x4 K4=>k σ4 t' A B eV S4 O4 ⟨_,x4,?_⟩ ((KV2.trans K3).trans (K4.mono xv2))
    · rw [← hm]; exact U.weak
    · exact hxe
  have el:ev σ2 [some (.ref tr),some (.ref x),some (.ref x),none,none,none,none] (.attr (.var 1) .left) = some (opt l.root):=(ev_attr (e:=.var 1) (f:=.left) rfl S2.node).trans rfl
  have er:ev σ2 [some (.ref tr),some (.ref x),some (.ref x),none,none,none,none] (.attr (.var 1) .right) = some (opt r.root):=(ev_attr (e:=.var 1) (f:=.right) rfl S2.node).trans rfl
  have el2:ev σ2 [some (.ref tr),some (.ref x),some (.ref x),none,none,none,none] (.attr (.var 2) .left) = some (opt l.root):=(ev_attr (e:=.var 2) (f:=.left) rfl S2.node).trans rfl
  have er2:ev σ2 [some (.ref tr),some (.ref x),some (.ref x),none,none,none,none] (.attr (.var 2) .right) = some (opt r.root):=(ev_attr (e:=.var 2) (f:=.right) rfl S2.node).trans rfl
  cases l with
  | nil =>
    exact R.iteF (b:=false) (ev_and (t:=false) (ev_isNone (o:=none) el) rfl) rfl (one r (.inl ⟨rfl,rfl⟩) (ev_ite (t:=false) (ev_isNone (o:=none) el2) er2))
  | nd li ld ll lr =>
    cases r with
    | nil =>
      exact R.iteF (b:=false) (ev_and (t:=true) (ev_isNone (o:=some li) el) (ev_isNone (o:=none) er)) rfl (one _ (.inr ⟨rfl,rfl⟩) (ev_ite (t:=true) (ev_isNone (o:=some li) el2) el2))
    | nd ri rd' rl rr' =>
      refine R.iteT (b:=true) (ev_and (t:=true) (ev_isNone (o:=some li) el) (ev_isNone (o:=some ri) er)) rfl ?_
      have S3:=S2.downR
      refine R.callA (vs:=[.ref ri]) (evs1 er) (firstBelow_ok (n:=n + 4) S3 xz.2.2 fun a g dg gr Sg hL hp az gz=>?_)
      have O':OkZ (plug (a.ext (.R x d (.nd li ld ll lr) c)) (.nd g dg .nil gr)):=by rw [plug_ext,hp]; exact O
      obtain ⟨h',gB,Ug,gn,gl,_⟩:=unplug O'.bh O'.nr O'.lim O'.z
      have ccz:=Ug.Z
      have cco:=C.Z0_off ccz.z0
      refine R.assign (v:=opt gr.root) (ev_ite (t:=false) (ev_isNone (o:=none) ((ev_attr (e:=.var 2) (f:=.left) rfl Sg.node).trans rfl)) ((ev_attr (e:=.var 2) (f:=.right) rfl Sg.node).trans rfl)) ?_
      refine R.assign (v:=opt (a.ext (.R x d (.nd li ld ll lr) c)).pid) ((ev_attr (e:=.var 2) (f:=.parent) rfl Sg.node).trans rfl) (R.assign (v:=.bool dg.red) ((ev_attr (e:=.var 2) (f:=.red) rfl Sg.node).trans rfl) ?_)
      refine R.call (vs:=[.ref tr,opt (a.ext (.R x d (.nd li ld ll lr) c)).pid,.ref g,opt gr.root]) rfl (unlink_ok (n:=n + 5) Sg (.inl ⟨rfl,rfl⟩) gz.1 fun σ4 S4 g4 K4=>?_)
      have S4':=S4.upExt.upR
      have gx:g ≠ x:=by
        have ap:=Sg.apart
        intro q
        have:x ∈ (a.ext (.R x d (.nd li ld ll lr) c)).pre:=by
          have:∀ a:C,x ∈ (a.ext (.R x d (.nd li ld ll lr) c)).pre:=fun a=>by
            induction a with
            | top=>exact List.mem_append_right _ (List.mem_append_right _ (.head _))
            | L _ _ _ _ ih=>exact ih
            | R _ _ _ _ ih=>exact List.mem_append_left _ ih
          exact this a
        exact ap.2.2.2 x (.inl this) q.symm
      have gV:g ∉ tr :: ((a.ext (.R x d (.nd li ld ll lr) c)).vpre ++ (gr.vals (a.ext (.R x d (.nd li ld ll lr) c)).off ++ (a.ext (.R x d (.nd li ld ll lr) c)).vpost)).map (·.i):=by
        have ap:=Sg.apart
        rw [List.map_append,List.map_append,C.ids_pre,T.ids_vals,C.ids_post]
        intro q
        rcases List.mem_cons.mp q with q | q
        · exact ap.2.2.1 q.symm
        · rcases List.mem_append.mp q with q | q
          · exact ap.2.2.2 g (.inl q) rfl
          · rcases List.mem_append.mp q with q | q
            · exact ap.2.1 q
            · exact ap.2.2.2 g (.inr q) rfl
      refine R.iteT (b:=true) ((ev_isRef (p:=g) (q:=x) rfl rfl (by rw [g4]; rfl) S4'.alive).trans (by simp [gx])) rfl ?_
      refine R.call rfl (takePlace_ok (n:=n + 4) S4' g4 gV xz.1 gz.1 U.Z.z0 fun σ5 d' hr ho hl S5 x5 K5=>?_)
      have S6:=(S5.downR).downExt
      have e4:ev σ5 [some (.ref tr),some (.ref x),some (.ref g),some (opt gr.root),some (opt (a.ext (.R x d (.nd li ld ll lr) c)).pid),some (.bool dg.red),none] (.ite (.is false (.var 4) (.var 1)) (.var 2) (.var 4)) = some (opt (a.ext (.R g d' (.nd li ld ll lr) c)).pid):=by
        cases a with
        | top=>exact ev_ite (t:=true) ((ev_isRef (p:=x) (q:=x) rfl rfl (by rw [x5]; rfl) (by rw [x5]; rfl)).trans (by simp)) rfl
        | L j e t a =>
          have jx:j ≠ x:=by
            have nd:=Sg.nd'
            intro q
            have hx':x ∈ (a.ext (.R x d (.nd li ld ll lr) c)).pre:=by
              have:∀ a:C,x ∈ (a.ext (.R x d (.nd li ld ll lr) c)).pre:=fun a=>by
                induction a with
                | top=>exact List.mem_append_right _ (List.mem_append_right _ (.head _))
                | L _ _ _ _ ih=>exact ih
                | R _ _ _ _ ih=>exact List.mem_append_left _ ih
              exact this a
            rw [List.nodup_cons] at nd
            exact (List.nodup_append.mp nd.2).2.2 x hx' j (List.mem_append_right _ (List.mem_append_left _ (.head _))) q.symm
          exact ev_ite (t:=false) ((ev_isRef (p:=j) (q:=x) rfl rfl (by rw [S6.ctx.1]; rfl) (by rw [x5]; rfl)).trans (by simp [jx])) rfl
        | R j e t a=>exact hL.elim
      refine R.assign e4 ?_
      have eB:(c.vpre ++ T.vals 0 (.nd li ld ll lr)) ++ (T.vals 0 (.nd ri rd' rl rr') ++ c.vpost) = c.vpre ++ ((T.vals c.off (.nd li ld ll lr) ++ dg.en g 0 :: T.vals c.off (plug a gr)) ++ c.vpost):=by
        rw [off,← hp,plug_vals hL az,plug_vals hL az]
        show _ ++ (([] ++ dg.en g (0 + dg.offset) :: gr.vals (0 + dg.offset)) ++ a.vpost ++ c.vpost) = _
        rw [gz.1]
        simp only [List.append_assoc,List.cons_append,List.nil_append,Int.add_zero]
      rw [← eB] at S6
      obtain ⟨xv1,xv2⟩:=xV _ _ V0
      obtain ⟨m,b1,b2,hm⟩:=gB
      have U2:=ext_U (x:=x) (g:=g) hr (ho.trans xz.1.symm ▸ ho) Ug
      refine dn_tail (n:=n) (h:=m) S6 x5 xv1 b2 gn.2.2 gl.2.2 gz.2.2 ?_ (by rw [ext_rr hr]; exact rr_false (plug_red.symm.trans O'.rb)) (fun q=>(gn.1 q).2) fun σ7 t' S7 O7 x7 K7=>k σ7 t' _ _ V0 S7 O7 ⟨_,x7,hxe⟩ (((KV2.trans K4).trans (K5.mono ?_)).trans (K7.mono xv2))
      · rw [← hm]; exact U2.weak
      · intro z hz
        rcases List.mem_cons.mp hz with q | q
        · rw [q]; exact Sg.mem
        · rcases List.mem_cons.mp q with q | q
          · rw [q]; exact .head _
          · rw [Sg.ids]
            rw [List.map_append,List.map_append,C.ids_pre,T.ids_vals,C.ids_post] at q
            rcases List.mem_append.mp q with q | q
            · exact .tail _ (List.mem_append_left _ q)
            · rcases List.mem_append.mp q with q | q
              · exact .tail _ (List.mem_append_right _ (List.mem_append_left _ (List.mem_append_right _ (.tail _ q))))
              · exact .tail _ (List.mem_append_right _ (List.mem_append_right _ q))
end Mine
namespace Mine
theorem TreeAt.isN {σ:Hp}:∀ {t:T} {p:Option Nat},TreeAt σ t p→∀ j ∈ t.ids,∃ n,σ j = some (.node n)
  | .nil,_,_,_,h=>nomatch h
  | .nd i d l r,_,⟨a,b,c⟩,j,h=>by
    rcases List.mem_append.mp h with h | h
    · exact b.isN j h
    · rcases List.mem_cons.mp h with rfl | h
      · exact ⟨_,a⟩
      · exact c.isN j h
theorem CtxAt.isN {σ:Hp} {tr:Nat} {cnt:Int}:∀ {c:C} {x:Option Nat},CtxAt σ tr cnt c x→(∀ j,j ∈ c.pre ∨ j ∈ c.post→∃ n,σ j = some (.node n))∧∃ t,σ tr = some (.tree t)
  | .top,_,h=>⟨fun j q=>(by rcases q with q | q <;> cases q),_,h⟩
  | .L i d t c,_,⟨a,b,e⟩=>by
    obtain ⟨h1,h2⟩:=CtxAt.isN (c:=c) e
    refine ⟨fun j q=>?_,h2⟩
    rcases q with q | q
    · exact h1 j (.inl q)
    · rcases List.mem_append.mp q with q | q
      · rcases List.mem_cons.mp q with rfl | q
        · exact ⟨_,a⟩
        · exact b.isN j q
      · exact h1 j (.inr q)
  | .R i d t c,_,⟨a,b,e⟩=>by
    obtain ⟨h1,h2⟩:=CtxAt.isN (c:=c) e
    refine ⟨fun j q=>?_,h2⟩
    rcases q with q | q
    · rcases List.mem_append.mp q with q | q
      · exact h1 j (.inl q)
      · rcases List.mem_append.mp q with q | q
        · exact b.isN j q
        · rw [List.mem_singleton.mp q]; exact ⟨_,a⟩
    · exact h1 j (.inr q)
noncomputable def notNT:Option SO→Prop
  | some (.node _)=>False
  | some (.tree _)=>False
  | _=>True
theorem St.apartL {σ:Hp} {tr:Nat} {cnt:Int} {V:List En} {c:C} {t:T} (S:St σ tr cnt V c t) {l:Nat} (h:notNT (σ l)):l ∉ tr :: V.map (·.i):=by
  rw [S.ids]
  obtain ⟨h1,_,h2⟩:=S.ctx.isN
  intro q
  rcases List.mem_cons.mp q with q | q
  · rw [q,h2] at h; exact h
  · rcases List.mem_append.mp q with q | q
    · obtain ⟨n,e⟩:=h1 l (.inl q); rw [e] at h; exact h
    · rcases List.mem_append.mp q with q | q
      · obtain ⟨n,e⟩:=S.tree.isN l q; rw [e] at h; exact h
      · obtain ⟨n,e⟩:=h1 l (.inr q); rw [e] at h; exact h
theorem St.outL {σ:Hp} {tr:Nat} {cnt:Int} {V:List En} {c:C} {t:T} (S:St σ tr cnt V c t) {l:Nat} {o:SO} (h:notNT (σ l)):St (upd σ l o) tr cnt V c t :=
  S.out fun z hz=>upd_ne _ _ fun q=>S.apartL h (q ▸ hz)
theorem plug_congr:∀ {c:C} {t t':T},(∀ h,t.BH h→t'.BH h)→(t.NR→t'.NR)→t'.isRed = t.isRed→t'.lim = t.lim→(t.Lim→t'.Lim)→Ok (plug c t)→Ok (plug c t')
  | .top,t,t',a,b,e,f,g,O=>⟨O.bh.imp a,b O.nr,e.trans O.rb,g O.lim⟩
  | .L i d s c,t,t',a,b,e,f,g,O=>plug_congr (c:=c) (t:=.nd i d t s) (t':=.nd i d t' s) (fun h ⟨k,p,q,r⟩=>⟨k,a k p,q,r⟩) (fun ⟨p,q,r⟩=>⟨by rw [e]; exact p,b q,r⟩) rfl rfl
      (fun ⟨p,q,r⟩=>⟨by rw [p]; unfold gEnd; rw [f],g q,r⟩) O
  | .R i d s c,t,t',a,b,e,f,g,O=>plug_congr (c:=c) (t:=.nd i d s t) (t':=.nd i d s t') (fun h ⟨k,p,q,r⟩=>⟨k,p,a k q,r⟩) (fun ⟨p,q,r⟩=>⟨by rw [e]; exact p,q,b r⟩) rfl rfl
      (fun ⟨p,q,r⟩=>⟨by rw [p]; unfold gEnd; rw [f],q,g r⟩) O
theorem Ok.down {c:C} {i:Nat} {d:Dt} {l r:T} (O:Ok (plug c (.nd i d l r))):Ok (plug c (.nd i d.down (l.add d.offset) (r.add d.offset))) :=
  plug_congr (t:=.nd i d l r) (t':=.nd i d.down (l.add d.offset) (r.add d.offset)) (fun h ⟨k,p,q,e⟩=>⟨k,T.add_BH p,T.add_BH q,e⟩) (fun ⟨p,q,e⟩=>⟨by rw [T.add_red,T.add_red]; exact p,T.add_NR q,T.add_NR e⟩) rfl (by show some (d.limit + d.offset + 0) = some (d.limit + d.offset); rw [Int.add_zero]) Lim.down O
theorem unplug_Lim:∀ {c:C} {t:T},(plug c t).Lim→t.Lim
  | .top,_,h=>h
  | .L i d s c,t,h=>(unplug_Lim (c:=c) (t:=.nd i d t s) h).2.1
  | .R i d s c,t,h=>(unplug_Lim (c:=c) (t:=.nd i d s t) h).2.2
theorem mxo_le (a:Int) (x:Option Int):a ≤ mxo a x∧∀ b,x = some b→b ≤ mxo a x:=by
  cases x with
  | none=>exact ⟨Int.le_refl _,fun _ e=>nomatch e⟩
  | some b=>rw [mxo_some]; exact ⟨Int.le_max_left ..,fun c e=>by cases e; exact Int.le_max_right ..⟩
theorem gEnd_le (d:Dt) (l r:T):d.end_ ≤ gEnd d l r∧(∀ b,l.lim = some b→b ≤ gEnd d l r)∧(∀ b,r.lim = some b→b ≤ gEnd d l r):=by
  unfold gEnd
  have h1:=mxo_le d.end_ l.lim
  have h2:=mxo_le (mxo d.end_ l.lim) r.lim
  exact ⟨Int.le_trans h1.1 h2.1,fun b e=>Int.le_trans (h1.2 b e) h2.1,h2.2⟩
theorem lim_vals:∀ {t:T} {m o:Int},t.Lim→t.lim = some m→∀ y ∈ t.vals o,y.e ≤ m + o
  | .nil,_,_,_,e,_,_=>nomatch e
  | .nd i d l r,m,o,⟨h1,h2,h3⟩,e,y,hy=>by
    have e1:d.limit + d.offset = m:=by cases e; rfl
    obtain ⟨g1,g2,g3⟩:=gEnd_le d l r
    rw [← h1] at g1 g2 g3
    rcases List.mem_append.mp hy with hy | hy
    · cases q:l.lim with
      | none=>cases l with
        | nil=>cases hy
        | nd _ _ _ _=>cases q
      | some b=>have:=lim_vals h2 q y hy; have:=g2 b q; omega
    · rcases List.mem_cons.mp hy with rfl | hy
      · show d.end_ + (o + d.offset) ≤ _; omega
      · cases q:r.lim with
        | none=>cases r with
          | nil=>cases hy
          | nd _ _ _ _=>cases q
        | some b=>have:=lim_vals h3 q y hy; have:=g3 b q; omega
noncomputable def C.waits:C→List Nat
  | .top=>[]
  | .L i _ _ c=>c.waits ++ [i]
  | .R _ _ _ c=>c.waits
noncomputable def C.work:C→Nat
  | .top=>0
  | .L _ _ r c=>r.size + 1 + c.work
  | .R _ _ _ c=>c.work
theorem waits_len:∀ c:C,c.waits.length ≤ c.work
  | .top=>Nat.le_refl _
  | .L i d r c=>by have:=waits_len c; simp only [C.waits,C.work,List.length_append,List.length_cons,List.length_nil]; omega
  | .R _ _ _ c=>waits_len c
noncomputable def C.ZL:C→Prop
  | .top=>True
  | .L _ d _ c=>d.offset = 0∧c.ZL
  | .R _ d l c=>d.offset = 0∧l.Z∧c.ZL
theorem C.ZL.z0:∀ {c:C},c.ZL→c.Z0
  | .top,_=>trivial
  | .L _ _ _ _,h=>⟨h.1,C.ZL.z0 h.2⟩
  | .R _ _ _ _,h=>⟨h.1,C.ZL.z0 h.2.2⟩
theorem ZL_all:∀ {c:C} {t:T},c.waits = []→c.ZL→t.Z→(plug c t).Z
  | .top,_,_,_,z=>z
  | .L i d r c,_,e,_,_=>by have e':c.waits ++ [i] = []:=e; simp at e'
  | .R i d l c,t,e,h,z=>ZL_all (c:=c) (t:=.nd i d l t) e h.2.2 ⟨h.1,h.2.1,z⟩
theorem plug_Zc:∀ {c:C} {t t':T},(t.Z→t'.Z)→(plug c t).Z→(plug c t').Z
  | .top,_,_,h,z=>h z
  | .L i d r c,t,t',h,z=>plug_Zc (c:=c) (t:=.nd i d t r) (t':=.nd i d t' r) (fun ⟨a,b,e⟩=>⟨a,h b,e⟩) z
  | .R i d l c,t,t',h,z=>plug_Zc (c:=c) (t:=.nd i d l t) (t':=.nd i d l t') (fun ⟨a,b,e⟩=>⟨a,b,h e⟩) z
theorem plug_Zdown {c:C} {i:Nat} {d:Dt} {l r:T}:(plug c (.nd i d l r)).Z→(plug c (.nd i d.down (l.add d.offset) (r.add d.offset))).Z :=
  plug_Zc fun ⟨a,b,e⟩=>⟨rfl,by rw [a,T.add_zero]; exact b,by rw [a,T.add_zero]; exact e⟩
theorem pop_find {σ:Hp} {tr:Nat} {cnt:Int} {V:List En}:∀ {c:C} {t:T} {ws:List Nat} {i:Nat},c.waits = ws ++ [i]→St σ tr cnt V c t→c.Z0 →
    ∃ d r c' l,St σ tr cnt V c' (.nd i d l r)∧c'.waits = ws∧c'.Z0∧d.offset = 0∧c.vpre ++ t.vals 0 = c'.vpre ++ l.vals 0∧c.work = r.size + 1 + c'.work∧plug c t = plug c' (.nd i d l r)∧(c.ZL→t.Z→c'.ZL∧l.Z)
  | .top,_,ws,i,e,_,_=>by cases ws <;> cases e
  | .L j d r c,t,ws,i,e,S,z=>by
    have e':c.waits ++ [j] = ws ++ [i]:=e
    obtain ⟨e1,e2⟩:=List.append_inj' e' rfl
    cases e2
    exact ⟨d,r,c,t,S.upL,e1,z.2,z.1,rfl,rfl,rfl,fun h h'=>⟨h.2,h'⟩⟩
  | .R j d s c,t,ws,i,e,S,z=>by
    obtain ⟨d',r,c',l,h1,h2,h3,h4,h5,h6,h7,h8⟩:=pop_find (c:=c) (t:=.nd j d s t) e S.upR z.2
    refine ⟨d',r,c',l,h1,h2,h3,h4,?_,h6,h7,fun h h'=>h8 h.2.2 ⟨h.1,h.2.1,h'⟩⟩
    rw [← h5]
    show (c.vpre ++ (s.vals (c.off + d.offset) ++ [d.en j (c.off + d.offset)])) ++ t.vals 0 = c.vpre ++ (s.vals (0 + d.offset) ++ d.en j (0 + d.offset) :: t.vals (0 + d.offset))
    rw [C.Z0_off z.2,z.1]
    simp only [List.append_assoc,List.cons_append,List.nil_append]
    rfl
theorem waits_nil:∀ {c:C},c.waits = []→c.vpost = []∧c.work = 0
  | .top,_=>⟨rfl,rfl⟩
  | .L i _ _ c,e=>by have e':c.waits ++ [i] = []:=e; simp at e'
  | .R _ _ _ c,e=>waits_nil (c:=c) e
theorem size_le {t:T} {o:Int}:t.size = (t.vals o).length:=by
  induction t generalizing o with
  | nil=>rfl
  | nd i d l r ih1 ih2=>rw [T.vals,List.length_append,List.length_cons,← ih1,← ih2]; show l.size + r.size + 1 = _; omega
theorem work_le:∀ c:C,c.work ≤ c.vpost.length
  | .top=>Nat.le_refl _
  | .L i d r c=>by have:=work_le c; rw [C.vpost,List.length_append,List.length_cons,← size_le]; show r.size + 1 + c.work ≤ _; omega
  | .R _ _ _ c=>work_le c
theorem vals_snoc {σ:Hp} {tr:Nat} {cnt:Int} {V:List En} {c:C} {i:Nat} {d:Dt} {l r:T} (S:St σ tr cnt V c (.nd i d l r)) (z:c.Z0) (h0:d.offset = 0):(c.vpre ++ l.vals 0) ++ d.en i 0 :: (r.vals 0 ++ c.vpost) = V:=by
  rw [← S.vals,T.vals,C.Z0_off z,h0]
  simp only [List.append_assoc,List.cons_append]
  rfl
end Mine
namespace Mine
noncomputable def hits (bg en:Int) (y:En):Bool:=decide (y.b ≤ en) && decide (y.e ≥ bg)
noncomputable def refs (V:List En):List SV:=V.map fun y=>.ref y.i
theorem refs_append (A B:List En):refs (A ++ B) = refs A ++ refs B:=List.map_append
structure NB (tz:Prop) (σ₀:Hp) (tr:Nat) (cnt:Int) (V:List En) (fa wa:Nat) (bg en:Int) (c:C) (t:T) (nv:Option Nat) (σ:Hp):Prop where
  S:St σ tr cnt V c t
  O:Ok (plug c t)
  z:c.Z0
  nv:nv = t.root ∨ (nv = none∧(t.vals 0).filter (hits bg en) = [])
  f:σ fa = some (.list (refs (c.vpre.filter (hits bg en))))
  w:σ wa = some (.list (c.waits.map .ref))
  K:KV tr V σ₀ σ
  fr:σ₀ fa = none∧σ₀ wa = none∧fa ≠ wa
  zz:tz→(plug c t).Z
noncomputable def nbWork (c:C) (t:T):Option Nat→Nat
  | none=>c.work
  | some _=>t.size + c.work
theorem ev_len {σ:Hp} {ρ:Lc} {a:E} {l:Nat} {vs:List SV} (ha:ev σ ρ a = some (.ref l)) (hl:σ l = some (.list vs)) (hz:vs.length < 1000):ev σ ρ (.len a) = some (.int vs.length):=by
  show (ev σ ρ a).bind _ = _
  rw [ha]
  show (listAt σ (.ref l)).bind _ = _
  rw [listAt_ref hl]
  exact if_pos (by show vs.length < 1048576; omega)
theorem keep_new {tr:Nat} {V:List En} {σ₀ σ:Hp} {l:Nat} {o:SO} (K:KV tr V σ₀ σ) (h:σ₀ l = none):KV tr V σ₀ (upd σ l o):=fun z x hz e=>(upd_ne _ _ (fun q=>by rw [q,h] at e; cases e)).trans (K z x hz e)
noncomputable def nbInner:S:=.while (.is true (.var 5) .none) (.cons (.expr (.call .handDown (.cons (.var 5) .nil))) (.cons (.ite (.cmp .lt (.attr (.var 5) .limit) (.var 1)) (.cons (.assign 5 .none) .nil) (.cons (.expr (.append (.var 4) (.var 5))) (.cons (.assign 5 (.attr (.var 5) .left)) .nil))) .nil))
noncomputable abbrev nbρ (tr:Nat) (bg en:Int) (fa wa:Nat) (nv:Option Nat):Lc:=[some (.ref tr),some (.int bg),some (.int en),some (.ref fa),some (.ref wa),some (opt nv)]
theorem nb_inner {n:Nat} {tz:Prop} {Q:Fl→Lc→Hp→Prop} {σ₀ σ:Hp} {tr:Nat} {cnt:Int} {V:List En} {fa wa:Nat} {bg en:Int} {c:C} {t:T} {nv:Option Nat} {r:Ss} (hV:V.length < 900) (I:NB tz σ₀ tr cnt V fa wa bg en c t nv σ)
    (k:∀ σ' c' t',NB tz σ₀ tr cnt V fa wa bg en c' t' none σ'→nbWork c' t' none ≤ nbWork c t nv→(nv ≠ none→nbWork c' t' none < nbWork c t nv ∨ c'.waits ≠ [])→(nv = none→c' = c)→W (n + 1) r Q (nbρ tr bg en fa wa none) σ') :
    W (n + 1) (.cons nbInner r) Q (nbρ tr bg en fa wa nv) σ:=by
  refine R.while (n:=n + 1) (fun s:C × T × Option Nat=>match s.2.2 with | none=>0 | some _=>s.2.1.size) (fun s ρ σ'=>ρ = nbρ tr bg en fa wa s.2.2∧NB tz σ₀ tr cnt V fa wa bg en s.1 s.2.1 s.2.2 σ'∧nbWork s.1 s.2.1 s.2.2 ≤ nbWork c t nv∧(nv ≠ none→s.2.2 = none→nbWork s.1 s.2.1 s.2.2 < nbWork c t nv ∨ s.1.waits ≠ [])∧(nv = none→s.2.2 = none∧s.1 = c)∧(s.2.2 ≠ none→s.2.1.root = s.2.2)) (c,t,nv)
    ⟨rfl,I,Nat.le_refl _,fun h1 h2=>absurd h2 h1,fun h=>⟨h,rfl⟩,fun h=>by rcases I.nv with q | q; exact q.symm; exact absurd q.1 h⟩ ?_
  rintro ⟨c1,t1,nv1⟩ ρ σ1 ⟨rfl,I1,hw,h2,h3,h4⟩
  have I1:NB tz σ₀ tr cnt V fa wa bg en c1 t1 nv1 σ1:=I1
  cases nv1 with
  | none=>exact ⟨false,ev_isNone (o:=none) rfl,fun _=>k σ1 c1 t1 I1 hw (fun h=>h2 h rfl) (fun h=>(h3 h).2),(fun q=>nomatch q)⟩
  | some i =>
    refine ⟨true,ev_isNone (o:=some i) rfl,(fun q=>nomatch q),fun _ J hJ=>?_⟩
    obtain ⟨d,l,r',e⟩:=root_eq (h4 (fun q=>nomatch q))
    have e:t1 = .nd i d l r':=e
    subst e
    have nn:nv ≠ none:=fun q=>nomatch (h3 q).1
    refine R.call rfl (handDown_ok (n:=n) I1.S fun σ2 S2 K2=>?_)
    have O2:=Ok.down I1.O
    have hfw:notNT (σ1 fa)∧notNT (σ1 wa):=⟨by rw [I1.f]; trivial,by rw [I1.w]; trivial⟩
    have f2:σ2 fa = _:=K2 fa _ (I1.S.apartL hfw.1) I1.f
    have w2:σ2 wa = _:=K2 wa _ (I1.S.apartL hfw.2) I1.w
    have KK:=I1.K.trans K2
    have elim:=(ev_attr (e:=.var 5) (f:=.limit) (ρ:=nbρ tr bg en fa wa (some i)) rfl S2.node).trans rfl
    have ecmp:=ev_cmp (op:=.lt) (b:=.var 1) (j:=bg) elim rfl
    by_cases q:d.limit + d.offset < bg
    · refine R.iteT ecmp (decide_eq_true q) (R.assign (v:=.none) rfl (hJ (c1,_,none) _ σ2 ?_ ⟨rfl,⟨S2,O2,I1.z,.inr ⟨rfl,?_⟩,f2,w2,KK,I1.fr,fun h=>plug_Zdown (I1.zz h)⟩,?_,fun _ _=>.inl ?_,fun h=>absurd h nn,fun h=>absurd rfl h⟩))
      · show 0 < l.size + r'.size + 1; omega
      · rw [List.filter_eq_nil_iff]
        intro y hy
        have:=lim_vals (unplug_Lim O2.lim) rfl y hy
        have l2:y.e ≤ d.limit + d.offset + 0 + 0:=this
        unfold hits
        simp only [Bool.and_eq_true,decide_eq_true_eq,not_and]
        intro _; omega
      · have:nbWork c1 (.nd i d l r') (some i) ≤ nbWork c t nv:=hw
        show c1.work ≤ _
        have h5:c1.work ≤ nbWork c1 (.nd i d l r') (some i):=Nat.le_add_left _ _
        omega
      · have:nbWork c1 (.nd i d l r') (some i) ≤ nbWork c t nv:=hw
        have h5:nbWork c1 (.nd i d l r') (some i) = l.size + r'.size + 1 + c1.work:=rfl
        show c1.work < _
        omega
    · have wl:(c1.waits.map SV.ref).length < 1000:=by
        rw [List.length_map]
        have a1:=waits_len c1
        have a2:=work_le c1
        have a3:=congrArg List.length S2.vals
        simp only [List.length_append] at a3
        omega
      refine R.iteF ecmp (decide_eq_false q) (R.append (l:=wa) (w:=.ref i) rfl rfl w2 wl (R.assign (v:=opt (l.add d.offset).root) ?_ ?_))
      · have:=(S2.outL (l:=wa) (o:=.list (c1.waits.map SV.ref ++ [SV.ref i])) (by rw [w2]; trivial)).node
        exact (ev_attr (e:=.var 5) (f:=.left) rfl this).trans rfl
      · have S3:=S2.outL (l:=wa) (o:=.list (c1.waits.map SV.ref ++ [SV.ref i])) (by rw [w2]; trivial)
        refine hJ (.L i d.down (r'.add d.offset) c1,l.add d.offset,(l.add d.offset).root) _ _ ?_ ⟨rfl,⟨S3.downL,O2,⟨rfl,I1.z⟩,.inl rfl,(upd_ne _ _ I1.fr.2.2).trans f2,?_,keep_new KK I1.fr.2.1,I1.fr,fun h=>plug_Zdown (I1.zz h)⟩,?_,fun _ _=>.inr ?_,fun h=>absurd h nn,fun h=>rfl⟩
        · cases l with
          | nil=>show 0 < _; exact Nat.succ_pos _
          | nd j e jl jr=>show jl.size + jr.size + 1 < jl.size + jr.size + 1 + r'.size + 1; omega
        · rw [upd_same]
          show some (SO.list (c1.waits.map SV.ref ++ [SV.ref i])) = some (SO.list ((c1.waits ++ [i]).map SV.ref))
          rw [List.map_append]; rfl
        · have h6:nbWork c1 (.nd i d l r') (some i) ≤ nbWork c t nv:=hw
          have h5:nbWork c1 (.nd i d l r') (some i) = l.size + r'.size + 1 + c1.work:=rfl
          show nbWork (.L i d.down (r'.add d.offset) c1) (l.add d.offset) (l.add d.offset).root ≤ _
          have h7:nbWork (.L i d.down (r'.add d.offset) c1) (l.add d.offset) (l.add d.offset).root ≤ l.size + ((r'.add d.offset).size + 1 + c1.work):=by
            cases l with
            | nil=>exact Nat.le_add_left _ _
            | nd j e jl jr=>exact Nat.le_refl _
          rw [T.add_size] at h7
          omega
        · exact fun q=>by have q':c1.waits ++ [i] = []:=q; simp at q'
theorem nodesBetween_ok {n:Nat} {Q:SV→Hp→Prop} {σ:Hp} {tr:Nat} {cnt:Int} {V:List En} {t:T} {bg en:Int} (S:St σ tr cnt V .top t) (O:Ok t) (so:Srt V) (hV:V.length < 900)
    (k:∀ σ' t' fa,St σ' tr cnt V .top t'→Ok t'→(t.Z→t'.Z)→σ fa = none→σ' fa = some (.list (refs (V.filter (hits bg en))))→KV tr V σ σ'→Q (.ref fa) σ'):wpFn fnD (n + 3) .nodesBetween [.ref tr,.int bg,.int en] Q σ:=by
  refine ⟨rfl,R.newL (n:=n + 1) fun fa hfa=>R.newL fun wa hwa=>?_⟩
  have hne:fa ≠ wa:=fun q=>by rw [q,upd_same] at hwa; cases hwa
  have hwa':σ wa = none:=(upd_ne _ _ (Ne.symm hne)).symm.trans hwa
  have S1:=S.outL (l:=fa) (o:=.list []) (by rw [hfa]; trivial)
  have S2:=S1.outL (l:=wa) (o:=.list []) (by rw [hwa]; trivial)
  have K2:KV tr V σ (upd (upd σ fa (.list [])) wa (.list [])):=(Keep.new hfa).trans (Keep.new hwa)
  have f2:upd (upd σ fa (.list [])) wa (.list []) fa = some (.list []):=(upd_ne _ _ hne).trans (upd_same ..)
  have w2:upd (upd σ fa (.list [])) wa (.list []) wa = some (.list []):=upd_same ..
  generalize upd (upd σ fa (.list [])) wa (.list []) = σ2 at *
  refine R.assign (v:=opt t.root) (ev_attrT (e:=.var 0) rfl S2.ctx) ?_
  refine R.while (n:=n + 1) (fun s:C × T × Option Nat=>nbWork s.1 s.2.1 s.2.2) (fun s ρ σ'=>ρ = nbρ tr bg en fa wa s.2.2∧NB t.Z σ tr cnt V fa wa bg en s.1 s.2.1 s.2.2 σ') (.top,t,t.root) ⟨rfl,⟨S2,O,trivial,.inl rfl,f2,w2,K2,⟨hfa,hwa',hne⟩,id⟩⟩ ?_
  have k':=k; clear k
  generalize hZ:t.Z = tz at k'
  rintro ⟨c,t,nv⟩ ρ σ3 ⟨rfl,I⟩
  have I:NB tz σ tr cnt V fa wa bg en c t nv σ3:=I
  have wl:∀ {c1:C} {t1:T} {σ1:Hp},St σ1 tr cnt V c1 t1→(c1.waits.map SV.ref).length < 1000:=fun {c1 t1 σ1} S=>by
    rw [List.length_map]
    have a1:=waits_len c1
    have a2:=work_le c1
    have a3:=congrArg List.length S.vals
    simp only [List.length_append] at a3
    omega
  have etest:∀ {c1:C} {t1:T} {nv1:Option Nat} {σ1:Hp},NB tz σ tr cnt V fa wa bg en c1 t1 nv1 σ1→ev σ1 (nbρ tr bg en fa wa nv1) (.cmp .gt (.len (.var 4)) (.int 0)) = some (.bool (decide (c1.waits ≠ []))):=fun {c1 t1 nv1 σ1} I=>by
    rw [ev_cmp (ev_len (a:=.var 4) rfl I.w (wl I.S)) rfl]
    congr 2
    rw [List.length_map]
    show decide _ = decide _
    refine decide_eq_decide.mpr ?_
    cases c1.waits with
    | nil=>simp
    | cons a b=>simp
  refine ⟨(nv.isSome || decide (c.waits ≠ [])),?_,fun q=>?_,fun q J hJ=>?_⟩
  · cases nv with
    | none=>exact ev_or (t:=false) (ev_isNone (o:=none) rfl) (etest I)
    | some i=>exact ev_or (t:=true) (ev_isNone (o:=some i) rfl) rfl
  · cases nv with
    | some i=>cases q
    | none =>
      have w0:c.waits = []:=by simpa using q
      have tv:(t.vals 0).filter (hits bg en) = []:=by
        rcases I.nv with e | e
        · cases t with
          | nil=>rfl
          | nd _ _ _ _=>cases e
        · exact e.2
      refine R.ret (v:=.ref fa) rfl (Fq.now (fl:=.ret (.ref fa)) (k' σ3 _ fa I.S.up I.O I.zz hfa ?_ I.K))
      rw [I.f,← I.S.vals,(waits_nil w0).1,C.Z0_off I.z,List.append_nil,List.filter_append,tv,List.append_nil]
  · refine nb_inner hV I fun σ4 c4 t4 I4 hw hw2 hw3=>?_
    by_cases w0:c4.waits = []
    · refine R.iteF (etest I4) (by simp [w0]) (hJ (c4,t4,none) _ σ4 ?_ ⟨rfl,I4⟩)
      cases nv with
      | some i =>
        rcases hw2 (fun q=>nomatch q) with h | h
        · exact h
        · exact absurd w0 h
      | none =>
        rw [hw3 rfl] at w0
        rw [w0] at q
        simp at q
    · obtain ⟨ws,i,e⟩:∃ ws i,c4.waits = ws ++ [i]:=⟨_,_,(List.dropLast_concat_getLast w0).symm⟩
      obtain ⟨d,r,c',l,P1,P2,P3,P4,P5,P6,P7,_⟩:=pop_find e I4.S I4.z
      refine R.iteT (etest I4) (by simp [w0]) ?_
      have w4:=I4.w
      have len4:=wl I4.S
      rw [e,List.map_append] at w4 len4
      refine R.pop (l:=wa) (w:=.ref i) rfl w4 (by simp only [List.length_append] at len4; omega) ?_
      have S5:=P1.outL (l:=wa) (o:=.list (ws.map SV.ref)) (by rw [w4]; trivial)
      have f5:upd σ4 wa (.list (ws.map SV.ref)) fa = _:=(upd_ne _ _ hne).trans I4.f
      have w5:upd σ4 wa (.list (ws.map SV.ref)) wa = some (.list (c'.waits.map SV.ref)):=by rw [upd_same,P2]
      have K5:KV tr V σ (upd σ4 wa (.list (ws.map SV.ref))):=keep_new I4.K hwa'
      generalize upd σ4 wa (.list (ws.map SV.ref)) = σ5 at *
      have tv:(t4.vals 0).filter (hits bg en) = []:=by
        rcases I4.nv with e | e
        · cases t4 with
          | nil=>rfl
          | nd _ _ _ _=>cases e
        · exact e.2
      have fv:c4.vpre.filter (hits bg en) = (c'.vpre ++ l.vals 0).filter (hits bg en):=by rw [← P5,List.filter_append,tv,List.append_nil]
      have eb:=(ev_attr (e:=.var 5) (f:=.begin_) (ρ:=nbρ tr bg en fa wa (some i)) rfl S5.node).trans rfl
      have ee:=(ev_attr (e:=.var 5) (f:=.end_) (ρ:=nbρ tr bg en fa wa (some i)) rfl S5.node).trans rfl
      have mid:=pw_mid (A:=c'.vpre ++ l.vals 0) (x:=d.en i 0) (B:=r.vals 0 ++ c'.vpost) (by rw [vals_snoc P1 P3 P4]; exact so)
      have hbE:(d.en i 0).b = d.begin_:=Int.add_zero _
      have hit:hits bg en (d.en i 0) = (decide (d.begin_ ≤ en) && decide (d.end_ ≥ bg)):=by
        show (decide (d.begin_ + 0 ≤ en) && decide (d.end_ + 0 ≥ bg)) = _
        rw [Int.add_zero,Int.add_zero]
      -- behind the test
      have last:∀ σ6,St σ6 tr cnt V c' (.nd i d l r)→σ6 fa = some (.list (refs ((c'.vpre ++ (l.vals 0 ++ [d.en i 0])).filter (hits bg en))))→σ6 wa = some (.list (c'.waits.map SV.ref))→KV tr V σ σ6 →
          W (n + 1) (.cons (.assign 5 (.ite (.cmp .le (.attr (.var 5) .begin_) (.var 2)) (.attr (.var 5) .right) .none)) .nil) (fun fl ρ σ=>match fl with | .next=>J ρ σ | .ret w=>Fq Q (.ret w) ρ σ) (nbρ tr bg en fa wa (some i)) σ6:=fun σ6 S6 f6 w6 K6=>by
        have eb6:=(ev_attr (e:=.var 5) (f:=.begin_) (ρ:=nbρ tr bg en fa wa (some i)) rfl S6.node).trans rfl
        have er6:=(ev_attr (e:=.var 5) (f:=.right) (ρ:=nbρ tr bg en fa wa (some i)) rfl S6.node).trans rfl
        have vp:(C.R i d l c').vpre = c'.vpre ++ (l.vals 0 ++ [d.en i 0]):=by
          show c'.vpre ++ (l.vals (c'.off + d.offset) ++ [d.en i (c'.off + d.offset)]) = _
          rw [C.Z0_off P3,P4]; rfl
        have base:∀ nv1,(nv1 = r.root ∨ (nv1 = none∧(r.vals 0).filter (hits bg en) = []))→J (nbρ tr bg en fa wa nv1) σ6:=fun nv1 h1=>by
          refine hJ (.R i d l c',r,nv1) _ σ6 ?_ ⟨rfl,⟨S6.downR,?_,⟨P4,P3⟩,h1,?_,w6,K6,⟨hfa,hwa',hne⟩,fun h=>?_⟩⟩
          · have a1:nbWork (.R i d l c') r nv1 ≤ r.size + c'.work:=by
              cases nv1 with
              | none=>exact Nat.le_add_left _ _
              | some _=>exact Nat.le_refl _
            have a2:nbWork c4 t4 none = r.size + 1 + c'.work:=P6
            have hw:nbWork c4 t4 none ≤ nbWork c t nv:=hw
            show nbWork (.R i d l c') r nv1 < nbWork c t nv
            omega
          · have:=I4.O; rw [P7] at this; exact this
          · rw [f6,vp]
          · have:=I4.zz h; rw [P7] at this; exact this
        by_cases q2:d.begin_ ≤ en
        · exact R.assign (v:=opt r.root) (ev_ite (t:=true) ((ev_cmp (op:=.le) (b:=.var 2) (j:=en) eb6 rfl).trans (congrArg (fun b=>some (SV.bool b)) (decide_eq_true q2))) er6) (base r.root (.inl rfl))
        · refine R.assign (v:=.none) (ev_ite (t:=false) ((ev_cmp (op:=.le) (b:=.var 2) (j:=en) eb6 rfl).trans (congrArg (fun b=>some (SV.bool b)) (decide_eq_false q2))) rfl) (base none (.inr ⟨rfl,?_⟩))
          rw [List.filter_eq_nil_iff]
          intro y hy
          have:=mid.2 y (List.mem_append_left _ hy)
          rw [hbE] at this
          unfold hits
          simp only [Bool.and_eq_true,decide_eq_true_eq,not_and]
          intro h; omega
      have e1:ev σ5 (nbρ tr bg en fa wa (some i)) (.and (.cmp .le (.attr (.var 5) .begin_) (.var 2)) (.cmp .ge (.attr (.var 5) .end_) (.var 1))) = some (.bool (hits bg en (d.en i 0))):=by
        rw [hit]
        refine ev_and (t:=decide (d.begin_ ≤ en)) (ev_cmp (op:=.le) (b:=.var 2) (j:=en) eb rfl) ?_
        cases decide (d.begin_ ≤ en) with
        | true=>exact ev_cmp (op:=.ge) (b:=.var 1) (j:=bg) ee rfl
        | false=>rfl
      have fin6:(c'.vpre ++ (l.vals 0 ++ [d.en i 0])).filter (hits bg en) = c4.vpre.filter (hits bg en) ++ (if hits bg en (d.en i 0) then [d.en i 0] else []):=by
        rw [fv,← List.append_assoc,List.filter_append (l₂:=[d.en i 0])]
        refine congrArg _ ?_
        rw [List.filter_cons]; rfl
      cases hh:hits bg en (d.en i 0) with
      | true =>
        rw [hh] at e1 fin6
        refine R.iteT e1 rfl (R.append (l:=fa) (w:=.ref i) rfl rfl f5 ?_ ?_)
        · show (refs _).length < 1000
          have a1:=List.length_filter_le (hits bg en) c4.vpre
          have a3:=congrArg List.length I4.S.vals
          simp only [List.length_append] at a3
          unfold refs
          rw [List.length_map]
          omega
        · refine last _ (S5.outL (by rw [f5]; trivial)) ?_ ((upd_ne _ _ (Ne.symm hne)).trans w5) (keep_new K5 hfa)
          rw [upd_same,fin6,refs_append]
          rfl
      | false =>
        rw [hh] at e1 fin6
        refine R.iteF e1 rfl (last _ S5 ?_ w5 K5)
        rw [f5,fin6]
        simp
end Mine
namespace Mine
structure AN (tz:Prop) (σ₀:Hp) (tr:Nat) (cnt:Int) (V:List En) (fa wa:Nat) (c:C) (t:T) (σ:Hp):Prop where
  S:St σ tr cnt V c t
  O:tz→Ok (plug c t)
  z:c.ZL
  f:σ fa = some (.list (refs c.vpre))
  w:σ wa = some (.list (c.waits.map .ref))
  K:KV tr V σ₀ σ
  fr:σ₀ fa = none∧σ₀ wa = none∧fa ≠ wa
theorem waits_lt {σ:Hp} {tr:Nat} {cnt:Int} {V:List En} {c:C} {t:T} (S:St σ tr cnt V c t) (hV:V.length < 900):(c.waits.map SV.ref).length < 1000:=by
  rw [List.length_map]
  have a1:=waits_len c
  have a2:=work_le c
  have a3:=congrArg List.length S.vals
  simp only [List.length_append] at a3
  omega
theorem ev_some {σ:Hp} {ρ:Lc} {a:E} {l:Nat} {ws:List Nat} (ha:ev σ ρ a = some (.ref l)) (hl:σ l = some (.list (ws.map .ref))) (hz:(ws.map SV.ref).length < 1000):ev σ ρ (.cmp .gt (.len a) (.int 0)) = some (.bool (decide (ws ≠ []))):=by
  rw [ev_cmp (ev_len ha hl hz) rfl]
  congr 2
  rw [List.length_map]
  show decide _ = decide _
  refine decide_eq_decide.mpr ?_
  cases ws with
  | nil=>simp
  | cons a b=>simp
noncomputable abbrev anρ (tr fa wa:Nat) (t:T):Lc:=[some (.ref tr),some (.ref fa),some (.ref wa),some (opt t.root)]
theorem an_inner {n:Nat} {tz:Prop} {Q:Fl→Lc→Hp→Prop} {σ₀ σ:Hp} {tr:Nat} {cnt:Int} {V:List En} {fa wa:Nat} {c:C} {t:T} {r:Ss} (hV:V.length < 900) (I:AN tz σ₀ tr cnt V fa wa c t σ) (h0:t.root ≠ none ∨ c.waits ≠ [])
    (k:∀ σ' c',AN tz σ₀ tr cnt V fa wa c' .nil σ'→c'.work ≤ t.size + c.work→c'.waits ≠ []→W (n + 1) r Q (anρ tr fa wa .nil) σ') :
    W (n + 1) (.cons (.while (.is true (.var 3) .none) (.cons (.expr (.call .handDown (.cons (.var 3) .nil))) (.cons (.expr (.append (.var 2) (.var 3))) (.cons (.assign 3 (.attr (.var 3) .left)) .nil)))) r) Q (anρ tr fa wa t) σ:=by
  refine R.while (n:=n + 1) (fun s:C × T=>s.2.size) (fun s ρ σ'=>ρ = anρ tr fa wa s.2∧AN tz σ₀ tr cnt V fa wa s.1 s.2 σ'∧s.2.size + s.1.work ≤ t.size + c.work∧(s.2.root ≠ none ∨ s.1.waits ≠ [])) (c,t) ⟨rfl,I,Nat.le_refl _,h0⟩ ?_
  rintro ⟨c1,t1⟩ ρ σ1 ⟨rfl,I1,hw,h2⟩
  have I1:AN tz σ₀ tr cnt V fa wa c1 t1 σ1:=I1
  have hw:t1.size + c1.work ≤ t.size + c.work:=hw
  cases t1 with
  | nil=>exact ⟨false,ev_isNone (o:=none) rfl,fun _=>k σ1 c1 I1 (by have h5:T.size .nil = 0:=rfl; omega) (h2.resolve_left fun h=>h rfl),(fun q=>nomatch q)⟩
  | nd i d l r' =>
    refine ⟨true,ev_isNone (o:=some i) rfl,(fun q=>nomatch q),fun _ J hJ=>R.call rfl (handDown_ok (n:=n) I1.S fun σ2 S2 K2=>?_)⟩
    have f2:σ2 fa = _:=K2 fa _ (I1.S.apartL (by rw [I1.f]; trivial)) I1.f
    have w2:σ2 wa = _:=K2 wa _ (I1.S.apartL (by rw [I1.w]; trivial)) I1.w
    have KK:=I1.K.trans K2
    refine R.append (l:=wa) (w:=.ref i) rfl rfl w2 (waits_lt S2 hV) ?_
    have S3:=S2.outL (l:=wa) (o:=.list (c1.waits.map SV.ref ++ [SV.ref i])) (by rw [w2]; trivial)
    refine R.assign (v:=opt (l.add d.offset).root) ((ev_attr (e:=.var 3) (f:=.left) rfl S3.node).trans rfl) (hJ (.L i d.down (r'.add d.offset) c1,l.add d.offset) _ _ ?_ ⟨rfl,⟨S3.downL,fun h=>Ok.down (I1.O h),⟨rfl,I1.z⟩,(upd_ne _ _ I1.fr.2.2).trans f2,?_,keep_new KK I1.fr.2.1,I1.fr⟩,?_,.inr ?_⟩)
    · show (l.add d.offset).size < l.size + r'.size + 1
      rw [T.add_size]; omega
    · rw [upd_same]
      show some (SO.list (c1.waits.map SV.ref ++ [SV.ref i])) = some (SO.list ((c1.waits ++ [i]).map SV.ref))
      rw [List.map_append]; rfl
    · have h5:T.size (.nd i d l r') = l.size + r'.size + 1:=rfl
      show (l.add d.offset).size + ((r'.add d.offset).size + 1 + c1.work) ≤ _
      rw [T.add_size,T.add_size]; omega
    · exact fun q=>by have q':c1.waits ++ [i] = []:=q; simp at q'
theorem allNodesInOrder_ok {n:Nat} {Q:SV→Hp→Prop} {σ:Hp} {tr:Nat} {cnt:Int} {V:List En} {t:T} (S:St σ tr cnt V .top t) (hV:V.length < 900)
    (k:∀ σ' t' fa,St σ' tr cnt V .top t'→(Ok t→Ok t')→t'.Z→σ fa = none→σ' fa = some (.list (refs V))→KV tr V σ σ'→Q (.ref fa) σ'):wpFn fnD (n + 3) .allNodesInOrder [.ref tr] Q σ:=by
  refine ⟨rfl,R.newL (n:=n + 1) fun fa hfa=>R.newL fun wa hwa=>?_⟩
  have hne:fa ≠ wa:=fun q=>by rw [q,upd_same] at hwa; cases hwa
  have hwa':σ wa = none:=(upd_ne _ _ (Ne.symm hne)).symm.trans hwa
  have S1:=S.outL (l:=fa) (o:=.list []) (by rw [hfa]; trivial)
  have S2:=S1.outL (l:=wa) (o:=.list []) (by rw [hwa]; trivial)
  have K2:KV tr V σ (upd (upd σ fa (.list [])) wa (.list [])):=(Keep.new hfa).trans (Keep.new hwa)
  have f2:upd (upd σ fa (.list [])) wa (.list []) fa = some (.list []):=(upd_ne _ _ hne).trans (upd_same ..)
  have w2:upd (upd σ fa (.list [])) wa (.list []) wa = some (.list []):=upd_same ..
  generalize upd (upd σ fa (.list [])) wa (.list []) = σ2 at *
  refine R.assign (v:=opt t.root) (ev_attrT (e:=.var 0) rfl S2.ctx) ?_
  refine R.while (n:=n + 1) (fun s:C × T=>s.2.size + s.1.work) (fun s ρ σ'=>ρ = anρ tr fa wa s.2∧AN (Ok t) σ tr cnt V fa wa s.1 s.2 σ') (.top,t) ⟨rfl,⟨S2,id,trivial,f2,w2,K2,hfa,hwa',hne⟩⟩ ?_
  rintro ⟨c1,t1⟩ ρ σ3 ⟨rfl,I⟩
  have I:AN (Ok t) σ tr cnt V fa wa c1 t1 σ3:=I
  refine ⟨(t1.root.isSome || decide (c1.waits ≠ [])),?_,fun q=>?_,fun q J hJ=>?_⟩
  · cases t1 with
    | nil=>exact ev_or (t:=false) (ev_isNone (o:=none) rfl) (ev_some (a:=.var 2) rfl I.w (waits_lt I.S hV))
    | nd i _ _ _=>exact ev_or (t:=true) (ev_isNone (o:=some i) rfl) rfl
  · cases t1 with
    | nd _ _ _ _=>cases q
    | nil =>
      have w0:c1.waits = []:=by simpa [T.root] using q
      refine R.ret (v:=.ref fa) rfl (Fq.now (fl:=.ret (.ref fa)) (k σ3 _ fa I.S.up I.O (ZL_all w0 I.z trivial) hfa ?_ I.K))
      rw [I.f,← I.S.vals,(waits_nil w0).1,C.Z0_off I.z.z0,List.append_nil]
      show _ = some (SO.list (refs (c1.vpre ++ [])))
      rw [List.append_nil]
  · refine an_inner hV I ?_ fun σ4 c4 I4 hw w0=>?_
    · cases t1 with
      | nil=>exact .inr (by simpa [T.root] using q)
      | nd _ _ _ _=>exact .inl fun h=>nomatch h
    · obtain ⟨ws,i,e⟩:∃ ws i,c4.waits = ws ++ [i]:=⟨_,_,(List.dropLast_concat_getLast w0).symm⟩
      obtain ⟨d,r,c',l,P1,P2,P3,P4,P5,P6,P7,P8⟩:=pop_find e I4.S I4.z.z0
      have w4:=I4.w
      have len4:=waits_lt I4.S hV
      rw [e,List.map_append] at w4 len4
      refine R.pop (l:=wa) (w:=.ref i) rfl w4 (by simp only [List.length_append] at len4; omega) ?_
      have S5:=P1.outL (l:=wa) (o:=.list (ws.map SV.ref)) (by rw [w4]; trivial)
      have f5:upd σ4 wa (.list (ws.map SV.ref)) fa = _:=(upd_ne _ _ hne).trans I4.f
      have w5:upd σ4 wa (.list (ws.map SV.ref)) wa = some (.list (c'.waits.map SV.ref)):=by rw [upd_same,P2]
      have K5:KV tr V σ (upd σ4 wa (.list (ws.map SV.ref))):=keep_new I4.K hwa'
      generalize upd σ4 wa (.list (ws.map SV.ref)) = σ5 at *
      refine R.append (l:=fa) (w:=.ref i) rfl rfl f5 ?_ ?_
      · show (refs _).length < 1000
        have a3:=congrArg List.length I4.S.vals
        simp only [List.length_append] at a3
        unfold refs
        rw [List.length_map]
        omega
      · have S6:=S5.outL (l:=fa) (o:=.list (refs c4.vpre ++ [SV.ref i])) (by rw [f5]; trivial)
        obtain ⟨z1,z2⟩:=P8 I4.z trivial
        refine R.assign (v:=opt r.root) ((ev_attr (e:=.var 3) (f:=.right) rfl S6.node).trans rfl) (hJ (.R i d l c',r) _ _ ?_ ⟨rfl,⟨S6.downR,fun h=>?_,⟨P4,z2,z1⟩,?_,(upd_ne _ _ (Ne.symm hne)).trans w5,keep_new K5 hfa,hfa,hwa',hne⟩⟩)
        · have hw:c4.work ≤ t1.size + c1.work:=hw
          show r.size + c'.work < t1.size + c1.work
          omega
        · have:=I4.O h; rw [P7] at this; exact this
        · rw [upd_same]
          show _ = some (SO.list (refs (c'.vpre ++ (l.vals (c'.off + d.offset) ++ [d.en i (c'.off + d.offset)]))))
          have P5:c4.vpre ++ [] = _:=P5
          rw [List.append_nil] at P5
          rw [C.Z0_off P3,P4,P5]
          show some (SO.list (refs (c'.vpre ++ T.vals 0 l) ++ [SV.ref i])) = some (SO.list (refs (c'.vpre ++ (T.vals 0 l ++ [Dt.en i d 0]))))
          rw [← List.append_assoc,refs_append (c'.vpre ++ l.vals 0)]
          rfl
end Mine
namespace Mine
theorem relim_same:∀ {c:C} {x:Option Int},c.Lim x→c.relim x = c
  | .top,_,_=>rfl
  | .L i d t c,x,⟨a,_,e⟩=>by
    show C.L i { d with limit:=mxo (mxo d.end_ x) t.lim } t (c.relim (some (mxo (mxo d.end_ x) t.lim + d.offset))) = _
    rw [← a,relim_same e]
  | .R i d t c,x,⟨a,_,e⟩=>by
    show C.R i { d with limit:=mxo (mxo d.end_ t.lim) x } t (c.relim (some (mxo (mxo d.end_ t.lim) x + d.offset))) = _
    rw [← a,relim_same e]
theorem relim_relim:∀ {c:C} {x y:Option Int},(c.relim x).relim y = c.relim y
  | .top,_,_=>rfl
  | .L i d t c,x,y=>by
    show C.L i _ t ((c.relim _).relim _) = C.L i _ t (c.relim _)
    rw [relim_relim (c:=c)]
  | .R i d t c,x,y=>by
    show C.R i _ t ((c.relim _).relim _) = C.R i _ t (c.relim _)
    rw [relim_relim (c:=c)]
theorem relim_ok2:∀ {c:C} {x y:Option Int},c.Lim x→(c.relim y).Lim y
  | .top,_,_,_=>trivial
  | .L i d t c,_,_,⟨_,b,e⟩=>⟨rfl,b,relim_ok2 e⟩
  | .R i d t c,_,_,⟨_,b,e⟩=>⟨rfl,b,relim_ok2 e⟩
theorem relim_Z0:∀ {c:C} {x:Option Int},c.Z0→(c.relim x).Z0
  | .top,_,_=>trivial
  | .L i d t c,_,⟨a,b⟩=>⟨a,relim_Z0 (c:=c) b⟩
  | .R i d t c,_,⟨a,b⟩=>⟨a,relim_Z0 (c:=c) b⟩
theorem relim_off:∀ {c:C} {x:Option Int},(c.relim x).off = c.off
  | .top,_=>rfl
  | .L i d t c,x=>by show (c.relim _).off + d.offset = c.off + d.offset; rw [relim_off (c:=c)]
  | .R i d t c,x=>by show (c.relim _).off + d.offset = c.off + d.offset; rw [relim_off (c:=c)]
theorem relim_vpre:∀ {c:C} {x:Option Int},(c.relim x).vpre = c.vpre
  | .top,_=>rfl
  | .L i d t c,x=>relim_vpre (c:=c)
  | .R i d t c,x=>by
    show (c.relim _).vpre ++ (t.vals ((c.relim _).off + d.offset) ++ [Dt.en i _ ((c.relim _).off + d.offset)]) = c.vpre ++ _
    rw [relim_off (c:=c),relim_vpre (c:=c)]
    rfl
theorem relim_vpost:∀ {c:C} {x:Option Int},(c.relim x).vpost = c.vpost
  | .top,_=>rfl
  | .L i d t c,x=>by
    show Dt.en i _ ((c.relim _).off + d.offset) :: t.vals ((c.relim _).off + d.offset) ++ (c.relim _).vpost = _
    rw [relim_off (c:=c),relim_vpost (c:=c)]
    rfl
  | .R i d t c,x=>relim_vpost (c:=c)
noncomputable abbrev rnρ (i:Option Nat) (g:Option SV):Lc:=[some (opt i),g]
theorem renewLimits_ok {n:Nat} {Q:SV→Hp→Prop} {σ:Hp} {tr:Nat} {cnt:Int} {V:List En} {c:C} {i:Nat} {d:Dt} {l r:T} (S:St σ tr cnt V c (.nd i d l r)) (cl:c.Lim (some (d.limit + d.offset)))
    (k:∀ σ',St σ' tr cnt V (c.relim (some (gEnd d l r + d.offset))) (.nd i { d with limit:=gEnd d l r } l r)→KV tr V σ σ'→Q .none σ'):wpFn fnD (n + 2) .renewLimits [.ref i] Q σ:=by
  refine ⟨rfl,?_⟩
  let Inv:(C × Option (Nat × Dt × T × T))→Lc→Hp→Prop:=fun s ρ σ'=>match s.2 with
    | none=>(∃ g,ρ = rnρ none g)∧Q .none σ'
    | some (i,d,l,r)=>(∃ g,ρ = rnρ (some i) g)∧St σ' tr cnt V s.1 (.nd i d l r)∧s.1.Lim (some (d.limit + d.offset))∧∀ σ'',St σ'' tr cnt V (s.1.relim (some (gEnd d l r + d.offset))) (.nd i { d with limit:=gEnd d l r } l r)→KV tr V σ' σ''→Q .none σ''
  refine R.while (n:=n) (fun s:C × Option (Nat × Dt × T × T)=>match s.2 with | none=>0 | some _=>s.1.len + 1) Inv (c,some (i,d,l,r)) ⟨⟨none,rfl⟩,S,cl,k⟩ ?_
  rintro ⟨c,o⟩ ρ σ' h
  cases o with
  | none =>
    obtain ⟨⟨g,rfl⟩,h⟩:=h
    exact ⟨false,ev_isNone (o:=none) rfl,fun _=>Fq.now (fl:=.next) h,(fun q=>nomatch q)⟩
  | some x =>
    obtain ⟨i,d,l,r⟩:=x
    obtain ⟨⟨g,rfl⟩,S,cl,k⟩:=h
    have S:St σ' tr cnt V c (.nd i d l r):=S
    have cl:c.Lim (some (d.limit + d.offset)):=cl
    refine ⟨true,ev_isNone (o:=some i) rfl,(fun q=>nomatch q),fun _ J hJ=>?_⟩
    refine R.assign (ev_gE (e:=.var 0) rfl S.node S.tree.2.1 S.tree.2.2) ?_
    have eg:=ev_cmp (op:=.eq) (a:=.var 1) (b:=.attr (.var 0) .limit) (ρ:=rnρ (some i) (some (.int (gEnd d l r)))) (σ:=σ') (i:=gEnd d l r) rfl ((ev_attr (e:=.var 0) (f:=.limit) rfl S.node).trans rfl)
    by_cases q:gEnd d l r = d.limit
    · refine R.iteT eg (decide_eq_true q) (Fq.now (fl:=.ret .none) (k σ' ?_ Keep.refl))
      rw [q,relim_same cl]
      exact S
    · refine R.iteF eg (decide_eq_false q) (R.set S (d':={ d with limit:=gEnd d l r }) (w:=.int (gEnd d l r)) rfl rfl rfl (fun _=>rfl) rfl fun σ1 S1 K1=>?_)
      refine R.assign (v:=opt c.pid) ((ev_attr (e:=.var 0) (f:=.parent) rfl S1.node).trans rfl) ?_
      cases c with
      | top=>exact hJ (.top,none) _ σ1 (Nat.succ_pos _) ⟨⟨_,rfl⟩,k σ1 S1 K1⟩
      | L j e t c=>exact hJ (c,some (j,e,.nd i { d with limit:=gEnd d l r } l r,t)) _ σ1 (Nat.lt_succ_self _) ⟨⟨_,rfl⟩,S1.upL,cl.2.2,fun σ2 S2 K2=>k σ2 S2.downL (K1.trans K2)⟩
      | R j e t c=>exact hJ (c,some (j,e,t,.nd i { d with limit:=gEnd d l r } l r)) _ σ1 (Nat.lt_succ_self _) ⟨⟨_,rfl⟩,S1.upR,cl.2.2,fun σ2 S2 K2=>k σ2 S2.downR (K1.trans K2)⟩
end Mine
namespace Mine
noncomputable def C.wt:C→List Bool→List (Option Nat)
  | .top,_=>[]
  | .L _ _ r c,m=>c.wt m.tail ++ (if m.headD false then [r.root] else [])
  | .R _ _ _ c,m=>c.wt m.tail
noncomputable def C.fpost (g:En→En):C→List Bool→List En
  | .top,_=>[]
  | .L i d r c,m=>d.en i 0 :: (if m.headD false then (r.vals 0).map g else r.vals 0) ++ c.fpost g m.tail
  | .R _ _ _ c,m=>c.fpost g m.tail
noncomputable def C.wk:C→List Bool→Nat
  | .top,_=>0
  | .L _ _ r c,m=>(if m.headD false then 2 * r.size + 1 else 0) + c.wk m.tail
  | .R _ _ _ c,m=>c.wk m.tail
noncomputable def Pend (t:T):Prop:=t.Z∧Srt (t.vals 0)∧∀ y ∈ t.vals 0,y.b ≤ y.e
noncomputable def C.Pd:C→List Bool→Prop
  | .top,_=>True
  | .L _ _ r c,m=>(m.headD false = true→Pend r)∧c.Pd m.tail
  | .R _ _ _ c,m=>c.Pd m.tail
theorem wt_relim:∀ {c:C} {x:Option Int} {m:List Bool},(c.relim x).wt m = c.wt m
  | .top,_,_=>rfl
  | .L i d r c,x,m=>by show (c.relim _).wt m.tail ++ _ = c.wt m.tail ++ _; rw [wt_relim (c:=c)]
  | .R i d r c,x,m=>wt_relim (c:=c)
theorem fpost_relim {g:En→En}:∀ {c:C} {x:Option Int} {m:List Bool},(c.relim x).fpost g m = c.fpost g m
  | .top,_,_=>rfl
  | .L i d r c,x,m=>by show Dt.en i _ 0 :: _ ++ (c.relim _).fpost g m.tail = _ :: _ ++ c.fpost g m.tail; rw [fpost_relim (c:=c)]; rfl
  | .R i d r c,x,m=>fpost_relim (c:=c)
theorem wk_relim:∀ {c:C} {x:Option Int} {m:List Bool},(c.relim x).wk m = c.wk m
  | .top,_,_=>rfl
  | .L i d r c,x,m=>by show _ + (c.relim _).wk m.tail = _ + c.wk m.tail; rw [wk_relim (c:=c)]
  | .R i d r c,x,m=>wk_relim (c:=c)
theorem Pd_relim:∀ {c:C} {x:Option Int} {m:List Bool},c.Pd m→(c.relim x).Pd m
  | .top,_,_,_=>trivial
  | .L i d r c,x,m,⟨a,b⟩=>⟨a,Pd_relim (c:=c) b⟩
  | .R i d r c,x,m,a=>Pd_relim (c:=c) a
theorem unplug_cLim:∀ {c:C} {t:T},(plug c t).Lim→c.Lim t.lim
  | .top,_,_=>trivial
  | .L i d s c,t,h=>by
    have h1:=unplug_Lim (c:=c) (t:=.nd i d t s) h
    exact ⟨h1.1,h1.2.2,unplug_cLim (c:=c) (t:=.nd i d t s) h⟩
  | .R i d s c,t,h=>by
    have h1:=unplug_Lim (c:=c) (t:=.nd i d s t) h
    exact ⟨h1.1,h1.2.1,unplug_cLim (c:=c) (t:=.nd i d s t) h⟩
theorem Ok_relim:∀ {c:C} {t t':T},(∀ h,t.BH h→t'.BH h)→(t.NR→t'.NR)→t'.isRed = t.isRed→(t.Lim→t'.Lim)→Ok (plug c t)→Ok (plug (c.relim t'.lim) t')
  | .top,t,t',a,b,e,g,O=>⟨O.bh.imp a,b O.nr,e.trans O.rb,g O.lim⟩
  | .L i d s c,t,t',a,b,e,g,O=>Ok_relim (c:=c) (t:=.nd i d t s) (t':=.nd i { d with limit:=mxo (mxo d.end_ t'.lim) s.lim } t' s) (fun h ⟨k,p,q,r⟩=>⟨k,a k p,q,r⟩) (fun ⟨p,q,r⟩=>⟨by rw [e]; exact p,b q,r⟩) rfl
      (fun ⟨_,q,r⟩=>⟨rfl,g q,r⟩) O
  | .R i d s c,t,t',a,b,e,g,O=>Ok_relim (c:=c) (t:=.nd i d s t) (t':=.nd i { d with limit:=mxo (mxo d.end_ s.lim) t'.lim } s t') (fun h ⟨k,p,q,r⟩=>⟨k,p,a k q,r⟩) (fun ⟨p,q,r⟩=>⟨by rw [e]; exact p,q,b r⟩) rfl
      (fun ⟨_,q,r⟩=>⟨rfl,q,g r⟩) O
theorem vals_off {i:Nat} {d:Dt} {l r:T} (h:d.offset = 0):(T.nd i d l r).vals 0 = l.vals 0 ++ d.en i 0 :: r.vals 0:=by
  show l.vals (0 + d.offset) ++ d.en i (0 + d.offset) :: r.vals (0 + d.offset) = _
  rw [h]; rfl
theorem wt_nil {g:En→En}:∀ {c:C} {m:List Bool},c.wt m = []→c.Z0→c.fpost g m = c.vpost
  | .top,_,_,_=>rfl
  | .L i d r c,m,h,z=>by
    have h:c.wt m.tail ++ (if m.headD false then [r.root] else []) = []:=h
    obtain ⟨h1,h2⟩:=List.append_eq_nil_iff.mp h
    show d.en i 0 :: (if m.headD false then (r.vals 0).map g else r.vals 0) ++ c.fpost g m.tail = d.en i (c.off + d.offset) :: r.vals (c.off + d.offset) ++ c.vpost
    rw [wt_nil (c:=c) h1 z.2,C.Z0_off z.2,z.1]
    cases q:m.headD false with
    | true=>rw [q] at h2; cases h2
    | false=>rfl
  | .R i d l c,m,h,z=>wt_nil (c:=c) (m:=m.tail) h z.2
theorem wt_len:∀ {c:C} {m:List Bool},(c.wt m).length ≤ c.work
  | .top,_=>Nat.le_refl _
  | .L i d r c,m=>by
    have:=wt_len (c:=c) (m:=m.tail)
    show (c.wt m.tail ++ (if m.headD false then [r.root] else [])).length ≤ r.size + 1 + c.work
    rw [List.length_append]
    cases m.headD false
    · show _ + 0 ≤ _; omega
    · show _ + 1 ≤ _; omega
  | .R i d l c,m=>wt_len (c:=c) (m:=m.tail)
theorem gw_find {σ:Hp} {tr:Nat} {cnt:Int} {V:List En} {g:En→En}:∀ {c:C} {m:List Bool} {t:T} {ws:List (Option Nat)} {o:Option Nat},c.wt m = ws ++ [o]→St σ tr cnt V c t→c.Z0→c.Pd m →
    ∃ c' m' t',St σ tr cnt V c' t'∧c'.wt m' = ws∧t'.root = o∧c'.Z0∧Pend t'∧c'.Pd m'∧plug c t = plug c' t'∧c.vpre ++ (t.vals 0 ++ c.fpost g m) = c'.vpre ++ ((t'.vals 0).map g ++ c'.fpost g m')∧c.wk m = c'.wk m' + (2 * t'.size + 1)
  | .top,m,t,ws,o,h,_,_,_=>by cases ws <;> cases h
  | .L i d r c,m,t,ws,o,h,S,z,p=>by
    have h:c.wt m.tail ++ (if m.headD false then [r.root] else []) = ws ++ [o]:=h
    have p1:m.headD false = true→Pend r:=p.1
    cases q:m.headD false with
    | true =>
      rw [q] at h
      obtain ⟨h1,h2⟩:=List.append_inj' h rfl
      refine ⟨.R i d t c,m,r,S.upL.downR,h1,(List.cons.inj h2).1,z,p1 q,p.2,rfl,?_,?_⟩
      · show c.vpre ++ (t.vals 0 ++ (d.en i 0 :: (if m.headD false then (r.vals 0).map g else r.vals 0) ++ c.fpost g m.tail)) = (c.vpre ++ (t.vals (c.off + d.offset) ++ [d.en i (c.off + d.offset)])) ++ ((r.vals 0).map g ++ c.fpost g m.tail)
        rw [C.Z0_off z.2,z.1,q]
        simp only [List.append_assoc,List.cons_append,List.nil_append]
        rfl
      · show (if m.headD false then 2 * r.size + 1 else 0) + c.wk m.tail = c.wk m.tail + (2 * r.size + 1)
        rw [q]; exact Nat.add_comm _ _
    | false =>
      rw [q] at h
      obtain ⟨c',m',t',a1,a2,a3,a4,a5,a6,a7,a8,a9⟩:=gw_find (g:=g) (c:=c) (m:=m.tail) (t:=.nd i d t r) (by rw [← h]; exact (List.append_nil _).symm) S.upL z.2 p.2
      refine ⟨c',m',t',a1,a2,a3,a4,a5,a6,a7,?_,?_⟩
      · rw [← a8,vals_off z.1]
        show c.vpre ++ (t.vals 0 ++ (d.en i 0 :: (if m.headD false then (r.vals 0).map g else r.vals 0) ++ c.fpost g m.tail)) = _
        rw [q]
        simp only [List.append_assoc,List.cons_append]
        rfl
      · rw [← a9]
        show (if m.headD false then 2 * r.size + 1 else 0) + c.wk m.tail = _
        rw [q]; exact Nat.zero_add _
  | .R i d l c,m,t,ws,o,h,S,z,p=>by
    obtain ⟨c',m',t',a1,a2,a3,a4,a5,a6,a7,a8,a9⟩:=gw_find (g:=g) (c:=c) (m:=m.tail) (t:=.nd i d l t) h S.upR z.2 p
    refine ⟨c',m',t',a1,a2,a3,a4,a5,a6,a7,?_,a9⟩
    rw [← a8,vals_off z.1]
    show (c.vpre ++ (l.vals (c.off + d.offset) ++ [d.en i (c.off + d.offset)])) ++ (t.vals 0 ++ c.fpost g m.tail) = _
    rw [C.Z0_off z.2,z.1]
    simp only [List.append_assoc,List.cons_append,List.nil_append]
    rfl
structure GW (g:En→En) (σ₀:Hp) (tr:Nat) (cnt:Int) (V0:List En) (c:C) (m:List Bool) (t:T) (p:Bool) (σ:Hp):Prop where
  S:∃ V,St σ tr cnt V c t∧V.map (·.i) = V0.map (·.i)
  O:Ok (plug c t)
  z:c.Z0
  K:KV tr V0 σ₀ σ
  v:c.vpre ++ ((if p then (t.vals 0).map g else t.vals 0) ++ c.fpost g m) = V0.map g
  pt:p = true→Pend t
  pc:c.Pd m
noncomputable def gwList (c:C) (m:List Bool) (t:T) (p:Bool):List (Option Nat):=c.wt m ++ (if p then [t.root] else [])
noncomputable def gwWork (c:C) (m:List Bool) (t:T) (p:Bool):Nat:=c.wk m + (if p then 2 * t.size + 1 else 0)
section
variable {g:En→En} {σ₀ σ σ':Hp} {tr:Nat} {cnt:Int} {V0:List En} {c:C} {m:List Bool} {t:T} {p:Bool}
theorem GW.start (S:St σ tr cnt V0 .top t) (O:Ok t) (z:t.Z) (so:Srt V0) (be:∀ y ∈ V0,y.b ≤ y.e) (K:KV tr V0 σ₀ σ):GW g σ₀ tr cnt V0 .top [] t true σ:=by
  have e:t.vals 0 = V0:=by
    have:=S.vals
    have:[] ++ (t.vals 0 ++ []) = V0:=this
    simpa using this
  refine ⟨⟨V0,S,rfl⟩,O,trivial,K,?_,fun _=>⟨z,by rw [e]; exact so,by rw [e]; exact be⟩,trivial⟩
  show [] ++ ((t.vals 0).map g ++ []) = _
  rw [e]; simp
theorem GW.len (G:GW g σ₀ tr cnt V0 c m t p σ) (hV:V0.length < 900):((gwList c m t p).map opt).length < 902:=by
  rw [List.length_map]
  obtain ⟨V,S,e⟩:=G.S
  have a1:=wt_len (c:=c) (m:=m)
  have a2:=work_le c
  have a3:=congrArg List.length S.vals
  have a4:=congrArg List.length e
  simp only [List.length_append,List.length_map] at a3 a4
  unfold gwList
  rw [List.length_append]
  cases p
  · show _ + 0 < _; omega
  · show _ + 1 < _; omega
theorem GW.fin (G:GW g σ₀ tr cnt V0 c m t p σ) (h:gwList c m t p = []):St σ tr cnt (V0.map g) .top (plug c t):=by
  unfold gwList at h
  obtain ⟨h1,h2⟩:=List.append_eq_nil_iff.mp h
  cases p with
  | true=>cases h2
  | false =>
    obtain ⟨V,S,_⟩:=G.S
    have v:=G.v
    rw [wt_nil h1 G.z] at v
    have e:=S.vals
    rw [C.Z0_off G.z] at e
    rw [← v]
    show St σ tr cnt (c.vpre ++ (t.vals 0 ++ c.vpost)) .top (plug c t)
    rw [e]
    exact S.up
theorem GW.pop (G:GW g σ₀ tr cnt V0 c m t p σ) {ws:List (Option Nat)} {o:Option Nat} (h:gwList c m t p = ws ++ [o]) :
    ∃ c' m' t',GW g σ₀ tr cnt V0 c' m' t' true σ∧c'.wt m' = ws∧t'.root = o∧gwWork c m t p = gwWork c' m' t' true:=by
  unfold gwList at h
  cases p with
  | true =>
    obtain ⟨h1,h2⟩:=List.append_inj' h rfl
    exact ⟨c,m,t,G,h1,(List.cons.inj h2).1,rfl⟩
  | false =>
    have h:c.wt m = ws ++ [o]:=by rw [← h]; exact (List.append_nil _).symm
    obtain ⟨V,S,e⟩:=G.S
    obtain ⟨c',m',t',a1,a2,a3,a4,a5,a6,a7,a8,a9⟩:=gw_find (g:=g) h S G.z G.pc
    exact ⟨c',m',t',⟨⟨V,a1,e⟩,a7 ▸ G.O,a4,G.K,a8.symm.trans G.v,fun _=>a5,a6⟩,a2,a3,a9⟩
theorem GW.skip (G:GW g σ₀ tr cnt V0 c m t true σ) (h:∀ y ∈ t.vals 0,g y = y):GW g σ₀ tr cnt V0 c m t false σ:=by
  refine ⟨G.S,G.O,G.z,G.K,?_,(fun q=>nomatch q),G.pc⟩
  have v:=G.v
  have e:(t.vals 0).map g = t.vals 0:=by
    conv=>rhs; rw [← List.map_id (t.vals 0)]
    exact List.map_congr_left h
  rw [← v]
  show c.vpre ++ (t.vals 0 ++ _) = c.vpre ++ ((t.vals 0).map g ++ _)
  rw [e]
theorem Pend.sons {i:Nat} {d:Dt} {l r:T} (P:Pend (.nd i d l r)):d.offset = 0∧Pend l∧Pend r∧(∀ y ∈ l.vals 0,y.b ≤ d.begin_)∧(∀ y ∈ r.vals 0,d.begin_ ≤ y.b)∧d.begin_ ≤ d.end_:=by
  obtain ⟨⟨z,z1,z2⟩,so,be⟩:=P
  rw [vals_off z] at so be
  have pm:=pw_mid so
  have hb:(d.en i 0).b = d.begin_:=Int.add_zero _
  have he:(d.en i 0).e = d.end_:=Int.add_zero _
  have so':=List.pairwise_append.mp so
  refine ⟨z,⟨z1,so'.1,fun y hy=>be y (List.mem_append_left _ hy)⟩,⟨z2,(List.pairwise_cons.mp so'.2.1).2,fun y hy=>be y (List.mem_append_right _ (.tail _ hy))⟩,?_,?_,?_⟩
  · rw [← hb]; exact pm.1
  · rw [← hb]; exact pm.2
  · have:=be _ (List.mem_append_right _ (.head _)); rw [hb,he] at this; exact this
theorem GW.next {i:Nat} {d d':Dt} {l r r':T} {mb:Bool} {V':List En} (G:GW g σ₀ tr cnt V0 c m (.nd i d l r) true σ) (S':St σ' tr cnt V' (c.relim (some (gEnd d' l r' + d'.offset))) (.nd i { d' with limit:=gEnd d' l r' } l r'))
    (K':KV tr V0 σ₀ σ') (h0:d'.offset = 0) (hr:d'.red = d.red) (hg:d'.en i 0 = g (d.en i 0))
    (hm:(mb = true∧r' = r) ∨ (mb = false∧(∃ k,r' = r.add k)∧r'.vals 0 = (r.vals 0).map g)) :
    GW g σ₀ tr cnt V0 (.L i { d' with limit:=gEnd d' l r' } r' (c.relim (some (gEnd d' l r' + d'.offset)))) (mb :: m) l true σ' ∧
    C.wt (.L i { d' with limit:=gEnd d' l r' } r' (c.relim (some (gEnd d' l r' + d'.offset)))) (mb :: m) = c.wt m ++ (if mb then [r.root] else []) ∧
    gwWork (.L i { d' with limit:=gEnd d' l r' } r' (c.relim (some (gEnd d' l r' + d'.offset)))) (mb :: m) l true < gwWork c m (.nd i d l r) true:=by
  obtain ⟨z,Pl,Pr,_,_,_⟩:=Pend.sons (G.pt rfl)
  obtain ⟨V,S,e⟩:=G.S
  have r1:r'.root = r.root∧r'.ids = r.ids∧r'.size = r.size∧r'.isRed = r.isRed∧(∀ h,r.BH h→r'.BH h)∧(r.NR→r'.NR)∧(r.Lim→r'.Lim):=by
    rcases hm with ⟨_,rfl⟩ | ⟨_,⟨k,rfl⟩,_⟩
    · exact ⟨rfl,rfl,rfl,rfl,fun _=>id,id,id⟩
    · exact ⟨T.add_root ..,T.add_ids ..,T.add_size ..,T.add_red ..,fun _=>T.add_BH,T.add_NR,T.add_Lim⟩
  obtain ⟨q1,q2,q3,q4,q5,q6,q7⟩:=r1
  have fp:(if mb then (r'.vals 0).map g else r'.vals 0) = (r.vals 0).map g:=by
    rcases hm with ⟨rfl,rfl⟩ | ⟨rfl,_,e⟩
    · rfl
    · exact e
  refine ⟨⟨⟨V',S'.downL,?_⟩,?_,⟨h0,relim_Z0 G.z⟩,K',?_,fun _=>Pl,?_,Pd_relim G.pc⟩,?_,?_⟩
  · rw [← e,S'.ids,S.ids]
    show (c.relim _).pre ++ ((l.ids ++ i :: r'.ids) ++ (c.relim _).post) = c.pre ++ ((l.ids ++ i :: r.ids) ++ c.post)
    rw [q2]
    congr 1
    · rw [← C.ids_pre,← C.ids_pre,relim_vpre]
    · congr 1
      rw [← C.ids_post,← C.ids_post,relim_vpost]
  · exact Ok_relim (c:=c) (t:=.nd i d l r) (t':=.nd i { d' with limit:=gEnd d' l r' } l r') (fun h ⟨k,a,b,w⟩=>⟨k,a,q5 k b,by rw [w]; show _ = k + (if d'.red then 0 else 1); rw [hr]⟩)
      (fun ⟨a,b,w⟩=>⟨fun h=>by have:=a (hr.symm.trans h); rw [q4]; exact this,b,q6 w⟩) hr (fun ⟨_,b,w⟩=>⟨rfl,b,q7 w⟩) G.O
  · have v:=G.v
    rw [if_pos rfl,vals_off z] at v
    rw [← v]
    show (c.relim _).vpre ++ ((l.vals 0).map g ++ (Dt.en i _ 0 :: (if mb then (r'.vals 0).map g else r'.vals 0) ++ (c.relim _).fpost g m)) = _
    rw [relim_vpre,fpost_relim,fp,List.map_append,List.map_cons,← hg]
    simp only [List.append_assoc,List.cons_append]
    rfl
  · intro hh
    rcases hm with ⟨_,rfl⟩ | ⟨q,_,_⟩
    · exact Pr
    · have hh:mb = true:=hh
      rw [q] at hh; cases hh
  · show (c.relim _).wt m ++ (if mb then [r'.root] else []) = _
    rw [wt_relim,q1]
  · have e2:T.size (.nd i d l r) = l.size + r.size + 1:=rfl
    show (if mb then 2 * r'.size + 1 else 0) + (c.relim _).wk m + (2 * l.size + 1) < c.wk m + (2 * T.size (.nd i d l r) + 1)
    rw [wk_relim,q3,e2]
    cases mb
    · show 0 + _ + _ < _; omega
    · show 2 * r.size + 1 + _ + _ < _; omega
theorem St.setV {V:List En} {i:Nat} {d:Dt} {l r:T} (d':Dt) (S:St σ tr cnt V c (.nd i d l r)):∃ V',V'.map (·.i) = V.map (·.i)∧St (upd σ i (nodeO d' l.root r.root c.pid)) tr cnt V' c (.nd i d' l r)∧KV tr V σ (upd σ i (nodeO d' l.root r.root c.pid)):=by
  obtain ⟨a1,a2,a3,a4⟩:=S.apart
  have e:(c.vpre ++ (T.vals c.off (.nd i d' l r) ++ c.vpost)).map (·.i) = V.map (·.i):=by
    rw [S.ids,List.map_append,List.map_append,C.ids_pre,C.ids_post,T.ids_vals]
    rfl
  exact ⟨_,e,⟨S.ctx.frame (fun j hj=>upd_ne _ _ (a4 j hj)) (upd_ne _ _ a3),⟨upd_same ..,S.tree.2.1.frame fun j hj=>upd_ne _ _ (fun q=>a1 (q ▸ hj)),S.tree.2.2.frame fun j hj=>upd_ne _ _ (fun q=>a2 (q ▸ hj))⟩,by rw [e]; exact S.nd,rfl⟩,Keep.put S.mem⟩
end
theorem R.setIf {n:Nat} {Q:Fl→Lc→Hp→Prop} {ρ:Lc} {rest:Ss} {σ:Hp} {tr:Nat} {cnt:Int} {V0:List En} {c:C} {l r:T} {i:Nat} {d d':Dt} {x o v:E} {f:Fld} {b:Bool} (S:∃ V,St σ tr cnt V c (.nd i d l r)∧V.map (·.i) = V0.map (·.i))
    (hc:ev σ ρ x = some (.bool b)) (ho:ev σ ρ o = some (.ref i)) (ht:b = true→∃ w,ev σ ρ v = some w∧(mkN d l.root r.root c.pid).set f w = some (mkN d' l.root r.root c.pid)) (hf:b = false→d' = d)
    (k:∀ σ',(∃ V,St σ' tr cnt V c (.nd i d' l r)∧V.map (·.i) = V0.map (·.i))→KV tr V0 σ σ'→W n rest Q ρ σ'):W n (.cons (.ite x (.cons (.setattr o f v) .nil) .nil) rest) Q ρ σ:=by
  cases b with
  | false=>rw [hf rfl] at k; exact R.iteF hc rfl (k σ S Keep.refl)
  | true =>
    obtain ⟨V,S,e⟩:=S
    obtain ⟨w,h1,h2⟩:=ht rfl
    obtain ⟨V',e',S',K'⟩:=S.setV d'
    exact R.iteT hc rfl (R.setattr h1 ho S.node (by show (Nd.set _ _ _).map SO.node = some _; rw [h2]; rfl) (k _ ⟨V',S',e'.trans e⟩ (by unfold KV at K' ⊢; rw [← e]; exact K')))
end Mine
namespace Mine
section
variable {n:Nat} {Q:Fl→Lc→Hp→Prop} {ρ:Lc} {σ:Hp} {r:Ss}
theorem R.iteCall {f:Fid} {es:Es} {vs:List SV} {x y:Ss} (h:evs σ ρ es = some vs) (k:wpFn fnD (n + 1) f vs (fun v σ=>on v.asBool fun t=>W n (app (if t then x else y) r) Q ρ σ) σ):W n (.cons (.ite (.call f es) x y) r) Q ρ σ:=by
  have e:(fun (v:SV) (σ:Hp)=>on v.asBool fun t=>W n (app (if t then x else y) r) Q ρ σ) = fun v σ=>on v.asBool fun t=>if t then wpSs (wpFn fnD (n + 1)) x (Kn (wpFn fnD (n + 1)) r Q) ρ σ else wpSs (wpFn fnD (n + 1)) y (Kn (wpFn fnD (n + 1)) r Q) ρ σ:=by
    funext v σ
    congr 1
    funext t
    unfold W
    rw [wpSs_app]
    cases t <;> rfl
  rw [e] at k
  exact evs_ok (n:=n) h k
end
theorem GW.out {g:En→En} {σ₀ σ:Hp} {tr:Nat} {cnt:Int} {V0:List En} {c:C} {m:List Bool} {t:T} {p:Bool} {wa:Nat} {vs ws:List SV} (G:GW g σ₀ tr cnt V0 c m t p σ) (h:σ wa = some (.list vs)) (hw:σ₀ wa = none):GW g σ₀ tr cnt V0 c m t p (upd σ wa (.list ws)):=by
  obtain ⟨V,S,e⟩:=G.S
  exact ⟨⟨V,S.outL (by rw [h]; trivial),e⟩,G.O,G.z,keep_new G.K hw,G.v,G.pt,G.pc⟩
theorem KV_of {tr:Nat} {V V0:List En} {σ σ':Hp} (h:V.map (·.i) = V0.map (·.i)) (K:KV tr V σ σ'):KV tr V0 σ σ':=by unfold KV at K ⊢; rw [← h]; exact K
noncomputable def growsB (y:En) (at_:Int) (bm:Bool):Bool:=decide (y.e > at_) || (decide (y.e = at_) && (bm || y.rear))
theorem grows_ok {n:Nat} {Q:SV→Hp→Prop} {σ:Hp} {i:Nat} {nd:Nd} {at_:Int} {bm:Bool} (h:σ i = some (.node nd)) (k:Q (.bool (growsB (nd.en i) at_ bm)) σ):wpFn fnD (n + 2) .grows [.ref i,.int at_,.bool bm] Q σ:=by
  have ee:=(ev_attr (e:=.var 0) (f:=.end_) (ρ:=[some (.ref i),some (.int at_),some (.bool bm)]) rfl h).trans rfl
  have er:=(ev_attr (e:=.var 0) (f:=.rear) (ρ:=[some (.ref i),some (.int at_),some (.bool bm)]) rfl h).trans rfl
  refine ⟨rfl,R.ret (n:=n) (v:=.bool (growsB (nd.en i) at_ bm)) ?_ (Fq.now (fl:=.ret _) k)⟩
  refine ev_or (t:=decide (nd.end_ > at_)) (ev_cmp (op:=.gt) (b:=.var 1) (j:=at_) ee rfl) ?_
  show _ = some (SV.bool (decide (nd.end_ > at_) || (decide (nd.end_ = at_) && (bm || nd.rear))))
  cases decide (nd.end_ > at_) with
  | true=>rfl
  | false =>
    refine ev_and (t:=decide (nd.end_ = at_)) (ev_cmp (op:=.eq) (b:=.var 1) (j:=at_) ee rfl) ?_
    cases decide (nd.end_ = at_) with
    | false=>rfl
    | true =>
      refine ev_or (t:=bm) rfl ?_
      cases bm with
      | true=>rfl
      | false=>exact er
theorem R.setIf' {n:Nat} {Q:Fl→Lc→Hp→Prop} {ρ:Lc} {rest:Ss} {σ:Hp} {tr:Nat} {cnt:Int} {V0:List En} {c:C} {l r:T} {i:Nat} {d d':Dt} {o v:E} {f:Fld} {b:Bool} (S:∃ V,St σ tr cnt V c (.nd i d l r)∧V.map (·.i) = V0.map (·.i))
    (ho:ev σ ρ o = some (.ref i)) (ht:b = true→∃ w,ev σ ρ v = some w∧(mkN d l.root r.root c.pid).set f w = some (mkN d' l.root r.root c.pid)) (hf:b = false→d' = d)
    (k:∀ σ',(∃ V,St σ' tr cnt V c (.nd i d' l r)∧V.map (·.i) = V0.map (·.i))→KV tr V0 σ σ'→W n rest Q ρ σ'):W n (app (if b then (.cons (.setattr o f v) .nil) else .nil) rest) Q ρ σ:=by
  cases b with
  | false=>rw [hf rfl] at k; exact k σ S Keep.refl
  | true =>
    obtain ⟨V,S,e⟩:=S
    obtain ⟨w,h1,h2⟩:=ht rfl
    obtain ⟨V',e',S',K'⟩:=S.setV d'
    exact R.setattr h1 ho S.node (by show (Nd.set _ _ _).map SO.node = some _; rw [h2]; rfl) (k _ ⟨V',S',e'.trans e⟩ (KV_of e K'))
noncomputable def gCame (at_ many:Int) (bm:Bool) (y:En):En:={ y with b:=if y.b > at_ then y.b + many else y.b,e:=if growsB y at_ bm then y.e + many else y.e }
noncomputable def shTail:Ss:=(.cons (.expr (.append (.var 4) (.attr (.var 5) .left))) (.cons (.ite (.cmp .gt (.attr (.var 5) .begin_) (.var 1)) (.cons (.setattr (.var 5) .begin_ (.bin .add (.attr (.var 5) .begin_) (.var 2))) .nil) .nil) (.cons (.ite (.call .grows (.cons (.var 5) (.cons (.var 1) (.cons (.var 3) .nil)))) (.cons (.setattr (.var 5) .end_ (.bin .add (.attr (.var 5) .end_) (.var 2))) .nil) .nil) (.cons (.expr (.call .renewLimits (.cons (.var 5) .nil))) .nil))))
noncomputable abbrev shρ (tr:Nat) (at_ many:Int) (bm:Bool) (wa:Nat) (x:Option SV):Lc:=[some (.ref tr),some (.int at_),some (.int many),some (.bool bm),some (.ref wa),x]
theorem sh_tail {n:Nat} {K:Fl→Lc→Hp→Prop} {σ₀ σ σ1:Hp} {tr wa:Nat} {cnt:Int} {V0:List En} {at_ many:Int} {bm:Bool} {c:C} {m:List Bool} {i:Nat} {d:Dt} {l r r':T} {mb:Bool} (hV:V0.length < 900)
    (G:GW (gCame at_ many bm) σ₀ tr cnt V0 c m (.nd i d l r) true σ) (S1:∃ V,St σ1 tr cnt V c (.nd i d l r')∧V.map (·.i) = V0.map (·.i)) (K1:KV tr V0 σ₀ σ1) (hw:σ₀ wa = none)
    (w1:σ1 wa = some (.list ((c.wt m ++ if mb then [r.root] else []).map opt))) (hm:(mb = true∧r' = r) ∨ (mb = false∧(∃ k,r' = r.add k)∧r'.vals 0 = (r.vals 0).map (gCame at_ many bm)))
    (J:∀ c' m' σ',GW (gCame at_ many bm) σ₀ tr cnt V0 c' m' l true σ'→σ' wa = some (.list ((gwList c' m' l true).map opt))→gwWork c' m' l true < gwWork c m (.nd i d l r) true→K .next (shρ tr at_ many bm wa (some (.ref i))) σ') :
    W (n + 2) shTail K (shρ tr at_ many bm wa (some (.ref i))) σ1:=by
  obtain ⟨V1,S1,e1⟩:=S1
  have z:=(Pend.sons (G.pt rfl)).1
  have len:((c.wt m ++ if mb then [r.root] else []).map opt).length < 1000:=by
    have:=G.len hV
    unfold gwList at this
    simp only [List.length_map,List.length_append] at this ⊢
    cases mb
    · show _ + 0 < _; omega
    · exact Nat.lt_trans this (by decide)
  refine R.append (l:=wa) (w:=opt l.root) rfl ((ev_attr (e:=.var 5) (f:=.left) rfl S1.node).trans rfl) w1 len ?_
  have S2:=S1.outL (l:=wa) (o:=.list ((c.wt m ++ if mb then [r.root] else []).map opt ++ [opt l.root])) (by rw [w1]; trivial)
  have K2:=keep_new (l:=wa) (o:=.list ((c.wt m ++ if mb then [r.root] else []).map opt ++ [opt l.root])) K1 hw
  have w2:upd σ1 wa (.list ((c.wt m ++ if mb then [r.root] else []).map opt ++ [opt l.root])) wa = _:=upd_same ..
  generalize upd σ1 wa (.list ((c.wt m ++ if mb then [r.root] else []).map opt ++ [opt l.root])) = σ2 at *
  have hwa:wa ∉ tr :: V0.map (·.i):=by rw [← e1]; exact S2.apartL (by rw [w2]; trivial)
  refine R.setIf (d':={ d with begin_:=if d.begin_ > at_ then d.begin_ + many else d.begin_ }) ⟨V1,S2,e1⟩ (ev_cmp (op:=.gt) (b:=.var 1) (i:=d.begin_) (j:=at_) ((ev_attr (e:=.var 5) (f:=.begin_) rfl S2.node).trans rfl) rfl) rfl ?_ ?_ fun σ3 S3 K3=>?_
  · intro h
    refine ⟨.int (d.begin_ + many),ev_add (b:=.var 2) (j:=many) ((ev_attr (e:=.var 5) (f:=.begin_) rfl S2.node).trans rfl) rfl,?_⟩
    rw [if_pos (of_decide_eq_true h)]; rfl
  · intro h
    rw [if_neg (of_decide_eq_false h)]
  have w3:=K3 wa _ hwa w2
  obtain ⟨V3,S3,e3⟩:=S3
  have ge:growsB ((mkN { d with begin_:=if d.begin_ > at_ then d.begin_ + many else d.begin_ } l.root r'.root c.pid).en i) at_ bm = growsB (d.en i 0) at_ bm:=by
    show (decide (d.end_ > at_) || (decide (d.end_ = at_) && (bm || d.rear))) = (decide (d.end_ + 0 > at_) || (decide (d.end_ + 0 = at_) && (bm || d.rear)))
    rw [Int.add_zero]
  refine R.iteCall (n:=n + 2) (vs:=[.ref i,.int at_,.bool bm]) rfl (grows_ok (n:=n + 1) S3.node ?_)
  rw [ge]
  refine ⟨growsB (d.en i 0) at_ bm,rfl,?_⟩
  refine R.setIf' (n:=n + 2) (d':={ d with begin_:=if d.begin_ > at_ then d.begin_ + many else d.begin_,end_:=if growsB (d.en i 0) at_ bm then d.end_ + many else d.end_ }) ⟨V3,S3,e3⟩ rfl ?_ ?_ fun σ4 S4 K4=>?_
  · intro h
    refine ⟨.int (d.end_ + many),ev_add (b:=.var 2) (j:=many) ((ev_attr (e:=.var 5) (f:=.end_) rfl S3.node).trans rfl) rfl,?_⟩
    rw [if_pos h]; rfl
  · intro h
    rw [h]; rfl
  have w4:=K4 wa _ hwa w3
  obtain ⟨V4,S4,e4⟩:=S4
  refine R.call (n:=n + 2) (vs:=[.ref i]) rfl (renewLimits_ok (n:=n + 1) S4 (unplug_cLim G.O.lim) fun σ5 S5 K5=>?_)
  have w5:=K5 wa _ (e4 ▸ hwa) w4
  obtain ⟨g1,g2,g3⟩:=GW.next (mb:=mb) (d':={ d with begin_:=if d.begin_ > at_ then d.begin_ + many else d.begin_,end_:=if growsB (d.en i 0) at_ bm then d.end_ + many else d.end_ }) G S5 (((K2.trans K3).trans K4).trans (KV_of e4 K5)) z rfl (by
    show En.mk i d.number (_ + 0) (_ + 0) d.front d.rear = En.mk i d.number (if d.begin_ + 0 > at_ then d.begin_ + 0 + many else d.begin_ + 0) (if growsB (d.en i 0) at_ bm then d.end_ + 0 + many else d.end_ + 0) d.front d.rear
    simp only [Int.add_zero]) hm
  refine J _ _ σ5 g1 ?_ g3
  rw [w5]
  unfold gwList
  rw [g2,if_pos rfl,List.map_append (l₂:=[l.root])]
  rfl
theorem ev_any {σ:Hp} {ρ:Lc} {a:E} {l:Nat} {vs:List SV} (ha:ev σ ρ a = some (.ref l)) (hl:σ l = some (.list vs)) (hz:vs.length < 1000):ev σ ρ (.cmp .gt (.len a) (.int 0)) = some (.bool !vs.isEmpty):=by
  rw [ev_cmp (ev_len ha hl hz) rfl]
  congr 2
  cases vs with
  | nil=>rfl
  | cons a b=>exact decide_eq_true (by show ((b.length + 1:Nat):Int) > 0; omega)
theorem snoc_of {α:Type} {l:List α} (h:l ≠ []):∃ ws o,l = ws ++ [o]:=⟨_,_,(List.dropLast_concat_getLast h).symm⟩
theorem St.addR {σ:Hp} {tr:Nat} {cnt:Int} {V V0:List En} {c:C} {i j:Nat} {d e:Dt} {l a b:T} (k:Int) (S:St σ tr cnt V c (.nd i d l (.nd j e a b))) (h:V.map (·.i) = V0.map (·.i)) :
    σ j = some (nodeO e a.root b.root (some i))∧(∃ V',St (upd σ j (nodeO { e with offset:=e.offset + k } a.root b.root (some i))) tr cnt V' c (.nd i d l (T.add k (.nd j e a b)))∧V'.map (·.i) = V0.map (·.i)) ∧
    KV tr V0 σ (upd σ j (nodeO { e with offset:=e.offset + k } a.root b.root (some i))):=by
  obtain ⟨V',e',S',K'⟩:=S.downR.setV { e with offset:=e.offset + k }
  exact ⟨S.downR.node,⟨V',S'.upR,e'.trans h⟩,KV_of h K'⟩
theorem add_came {at_ many:Int} {bm:Bool} {r:T} (hr:∀ y ∈ r.vals 0,at_ < y.b∧y.b ≤ y.e):(r.add many).vals 0 = (r.vals 0).map (gCame at_ many bm):=by
  rw [T.add_vals]
  have key:∀ (t:T) (o:Int),t.vals (o + many) = (t.vals o).map fun y=>{ y with b:=y.b + many,e:=y.e + many }:=by
    intro t
    induction t with
    | nil=>intro o; rfl
    | nd i d l r ih1 ih2 =>
      intro o
      show l.vals (o + many + d.offset) ++ d.en i (o + many + d.offset) :: r.vals (o + many + d.offset) = List.map _ (l.vals (o + d.offset) ++ d.en i (o + d.offset) :: r.vals (o + d.offset))
      rw [List.map_append,List.map_cons,← ih1,← ih2,show o + many + d.offset = o + d.offset + many by omega]
      congr 2
      show En.mk i d.number (d.begin_ + (o + d.offset + many)) (d.end_ + (o + d.offset + many)) _ _ = En.mk i d.number (d.begin_ + (o + d.offset) + many) (d.end_ + (o + d.offset) + many) _ _
      congr 1 <;> omega
  rw [key]
  refine List.map_congr_left fun y hy=>?_
  obtain ⟨h1,h2⟩:=hr y hy
  have h3:growsB y at_ bm = true:=by unfold growsB; rw [decide_eq_true (show y.e > at_ by omega)]; rfl
  unfold gCame
  rw [if_pos h1,h3]
  rfl
theorem shiftNodes_ok {n:Nat} {Q:SV→Hp→Prop} {σ:Hp} {tr:Nat} {cnt:Int} {V:List En} {t:T} {at_ many:Int} {bm:Bool} (S:St σ tr cnt V .top t) (O:Ok t) (z:t.Z) (so:Srt V) (be:∀ y ∈ V,y.b ≤ y.e) (hV:V.length < 900)
    (k:∀ σ' t',St σ' tr cnt (V.map (gCame at_ many bm)) .top t'→Ok t'→KV tr V σ σ'→Q .none σ'):wpFn fnD (n + 4) .shiftNodes [.ref tr,.int at_,.int many,.bool bm] Q σ:=by
  refine ⟨rfl,R.newL1 (n:=n + 2) (v:=opt t.root) (ev_attrT (e:=.var 0) rfl S.ctx) fun wa hwa=>?_⟩
  have S1:=S.outL (l:=wa) (o:=.list [opt t.root]) (by rw [hwa]; trivial)
  have K1:KV tr V σ (upd σ wa (.list [opt t.root])):=Keep.new hwa
  have w1:upd σ wa (.list [opt t.root]) wa = _:=upd_same ..
  generalize upd σ wa (.list [opt t.root]) = σ1 at *
  refine R.while (n:=n + 2) (fun s:C × List Bool × T × Bool=>gwWork s.1 s.2.1 s.2.2.1 s.2.2.2) (fun s ρ σ'=>(∃ x,ρ = shρ tr at_ many bm wa x)∧GW (gCame at_ many bm) σ tr cnt V s.1 s.2.1 s.2.2.1 s.2.2.2 σ'∧σ' wa = some (.list ((gwList s.1 s.2.1 s.2.2.1 s.2.2.2).map opt)))
    (.top,[],t,true) ⟨⟨none,rfl⟩,GW.start S1 O z so be K1,w1⟩ ?_
  rintro ⟨c,m,t,p⟩ ρ σ2 ⟨⟨x,rfl⟩,G,w2⟩
  have G:GW (gCame at_ many bm) σ tr cnt V c m t p σ2:=G
  have w2:σ2 wa = some (.list ((gwList c m t p).map opt)):=w2
  have len:=G.len hV
  refine ⟨_,ev_any (a:=.var 4) rfl w2 (Nat.lt_trans len (by decide)),fun q=>?_,fun q J hJ=>?_⟩
  · have e:gwList c m t p = []:=by
      cases h:gwList c m t p with
      | nil=>rfl
      | cons a b=>rw [h] at q; cases q
    exact Fq.now (fl:=.next) (k σ2 _ (G.fin e) G.O G.K)
  · have ne:gwList c m t p ≠ []:=fun e=>by rw [e] at q; cases q
    obtain ⟨ws,o,e⟩:=snoc_of ne
    obtain ⟨c1,m1,t1,G1,e1,e2,e3⟩:=G.pop e
    rw [e,List.map_append] at w2
    rw [e,List.map_append,List.length_append] at len
    refine R.pop (l:=wa) (w:=opt o) rfl w2 (Nat.lt_trans (Nat.lt_of_le_of_lt (Nat.le_add_right _ _) len) (by decide)) ?_
    have G2:=G1.out (ws:=ws.map opt) w2 hwa
    have w3:upd σ2 wa (.list (ws.map opt)) wa = _:=upd_same ..
    generalize upd σ2 wa (.list (ws.map opt)) = σ3 at *
    have jump:∀ c' m' t' p' x' σ',GW (gCame at_ many bm) σ tr cnt V c' m' t' p' σ'→σ' wa = some (.list ((gwList c' m' t' p').map opt))→gwWork c' m' t' p' < gwWork c1 m1 t1 true→J (shρ tr at_ many bm wa x') σ':=fun c' m' t' p' x' σ' h1 h2 h3 =>
      hJ (c',m',t',p') _ σ' (by show gwWork c' m' t' p' < gwWork c m t p; rw [e3]; exact h3) ⟨⟨x',rfl⟩,h1,h2⟩
    have wskip:σ3 wa = some (.list ((gwList c1 m1 t1 false).map opt)):=by rw [w3,← e1]; unfold gwList; rw [if_neg Bool.false_ne_true,List.append_nil]
    subst e2
    cases t1 with
    | nil=>exact R.iteF (ev_isNone (o:=none) rfl) rfl (jump c1 m1 .nil false _ σ3 (G2.skip fun y hy=>nomatch hy) wskip (by unfold gwWork; rw [if_neg Bool.false_ne_true,if_pos rfl]; exact Nat.add_lt_add_left (Nat.succ_pos _) _))
    | nd i d l r =>
      obtain ⟨h0,Pl,Pr,hl,hr,hbe⟩:=Pend.sons (G2.pt rfl)
      obtain ⟨V3,S3,e4⟩:=G2.S
      refine R.iteT (ev_isNone (o:=some i) rfl) rfl (R.call rfl (handDown_zero (n:=n + 1) S3.node h0 ?_))
      have eb:=(ev_attr (e:=.var 5) (f:=.begin_) (ρ:=shρ tr at_ many bm wa (some (.ref i))) rfl S3.node).trans rfl
      have erx:=(ev_attr (e:=.var 5) (f:=.right) (ρ:=shρ tr at_ many bm wa (some (.ref i))) rfl S3.node).trans rfl
      have ecmp:=ev_cmp (op:=.ge) (b:=.var 1) (j:=at_) (i:=d.limit) ((ev_attr (e:=.var 5) (f:=.limit) (ρ:=shρ tr at_ many bm wa (some (.ref i))) rfl S3.node).trans rfl) rfl
      by_cases q2:d.limit ≥ at_
      · refine R.iteT ecmp (decide_eq_true q2) ?_
        have tail:∀ (mb:Bool) (r':T) σ4,(∃ V,St σ4 tr cnt V c1 (.nd i d l r')∧V.map (·.i) = _)→KV tr V σ σ4→σ4 wa = some (.list ((c1.wt m1 ++ if mb then [r.root] else []).map opt))→((mb = true∧r' = r) ∨ (mb = false∧(∃ k,r' = r.add k)∧r'.vals 0 = (r.vals 0).map (gCame at_ many bm))) →
            W (n + 2) shTail (fun fl ρ σ=>match fl with | .next=>J ρ σ | .ret w=>Fq Q (.ret w) ρ σ) (shρ tr at_ many bm wa (some (.ref i))) σ4:=fun mb r' σ4 h1 h2 h3 h4 =>
          sh_tail (n:=n) hV G2 h1 h2 hwa h3 h4 fun c' m' σ' g1 g2 g3=>jump c' m' l true _ σ' g1 g2 g3
        have push:ev σ3 (shρ tr at_ many bm wa (some (.ref i))) (.and (.is true (.attr (.var 5) .right) .none) (.cmp .gt (.attr (.var 5) .begin_) (.var 1))) = some (.bool false)→W (n + 2) (.cons (.ite (.and (.is true (.attr (.var 5) .right) .none) (.cmp .gt (.attr (.var 5) .begin_) (.var 1))) (.cons (.setattr (.attr (.var 5) .right) .offset (.bin .add (.attr (.attr (.var 5) .right) .offset) (.var 2))) .nil) (.cons (.expr (.append (.var 4) (.attr (.var 5) .right))) .nil)) shTail) (fun fl ρ σ=>match fl with | .next=>J ρ σ | .ret w=>Fq Q (.ret w) ρ σ) (shρ tr at_ many bm wa (some (.ref i))) σ3:=fun ef=>R.iteF ef rfl (R.append (a:=.var 4) (l:=wa) (w:=opt r.root) rfl erx w3 (Nat.lt_trans (Nat.lt_of_le_of_lt (Nat.le_add_right _ _) len) (by decide)) (tail true r _ ⟨V3,S3.outL (by rw [w3]; trivial),e4⟩ (keep_new G2.K hwa) (by
            rw [upd_same,e1,if_pos rfl,List.map_append]; rfl) (.inl ⟨rfl,rfl⟩)))
        by_cases q3:d.begin_ > at_
        · cases r with
          | nil=>exact push (ev_and (t:=false) (ev_isNone (o:=none) erx) rfl)
          | nd j dj a b =>
            obtain ⟨n1,⟨V4,S4,e5⟩,K4⟩:=S3.addR many e4
            refine R.iteT (b:=true) (ev_and (t:=true) (ev_isNone (o:=some j) erx) ((ev_cmp (op:=.gt) (b:=.var 1) (j:=at_) (i:=d.begin_) eb rfl).trans (congrArg (fun b=>some (SV.bool b)) (decide_eq_true q3)))) rfl ?_
            refine R.setattr (a:=j) (w:=.int (dj.offset + many)) (so':=nodeO { dj with offset:=dj.offset + many } a.root b.root (some i)) (ev_add (b:=.var 2) (j:=many) ((ev_attr (e:=.attr (.var 5) .right) (f:=.offset) erx n1).trans rfl) rfl) erx n1 rfl ?_
            refine tail false (T.add many (.nd j dj a b)) _ ⟨V4,S4,e5⟩ (G2.K.trans K4) ?_ (.inr ⟨rfl,⟨many,rfl⟩,add_came fun y hy=>⟨?_,Pr.2.2 y hy⟩⟩)
            · rw [if_neg Bool.false_ne_true,List.append_nil,e1]
              exact K4 wa _ (e4 ▸ S3.apartL (by rw [w3]; trivial)) w3
            · have:=hr y hy; omega
        · refine push ?_
          have q4:=(ev_cmp (op:=.gt) (b:=.var 1) (j:=at_) (i:=d.begin_) eb rfl).trans (congrArg (fun b=>some (SV.bool b)) (decide_eq_false q3))
          cases r with
          | nil=>exact ev_and (t:=false) (ev_isNone (o:=none) erx) rfl
          | nd j dj a b=>exact ev_and (t:=true) (ev_isNone (o:=some j) erx) q4
      · refine R.iteF ecmp (decide_eq_false q2) (jump c1 m1 _ false _ σ3 (G2.skip fun y hy=>?_) wskip (by unfold gwWork; rw [if_neg Bool.false_ne_true,if_pos rfl]; exact Nat.add_lt_add_left (Nat.succ_pos _) _))
        have a1:=lim_vals (unplug_Lim G2.O.lim) rfl y hy
        have a2:y.e ≤ d.limit + d.offset + 0:=a1
        have a3:=(G2.pt rfl).2.2 y hy
        have h3:growsB y at_ bm = false:=by unfold growsB; rw [decide_eq_false (show ¬ y.e > at_ by omega),decide_eq_false (show ¬ y.e = at_ by omega)]; rfl
        unfold gCame
        rw [if_neg (by omega),h3]
        rfl
end Mine
namespace Mine
noncomputable def went (at_ many x:Int):Int:=if x > at_ then (if x - many > at_ then x - many else at_) else x
noncomputable def gWent (at_ many:Int) (y:En):En:={ y with b:=went at_ many y.b,e:=went at_ many y.e }
noncomputable def clTail:Ss:=(.cons (.expr (.append (.var 3) (.attr (.var 4) .left))) (.cons (.ite (.cmp .gt (.attr (.var 4) .begin_) (.var 1)) (.cons (.setattr (.var 4) .begin_ (.max (.var 1) (.bin .sub (.attr (.var 4) .begin_) (.var 2)))) .nil) .nil) (.cons (.ite (.cmp .gt (.attr (.var 4) .end_) (.var 1)) (.cons (.setattr (.var 4) .end_ (.max (.var 1) (.bin .sub (.attr (.var 4) .end_) (.var 2)))) .nil) .nil) (.cons (.expr (.call .renewLimits (.cons (.var 4) .nil))) .nil))))
noncomputable abbrev clρ (tr:Nat) (at_ many:Int) (wa:Nat) (x:Option SV):Lc:=[some (.ref tr),some (.int at_),some (.int many),some (.ref wa),x]
theorem cl_tail {n:Nat} {K:Fl→Lc→Hp→Prop} {σ₀ σ σ1:Hp} {tr wa:Nat} {cnt:Int} {V0:List En} {at_ many:Int} {c:C} {m:List Bool} {i:Nat} {d:Dt} {l r r':T} {mb:Bool} (hV:V0.length < 900)
    (G:GW (gWent at_ many) σ₀ tr cnt V0 c m (.nd i d l r) true σ) (S1:∃ V,St σ1 tr cnt V c (.nd i d l r')∧V.map (·.i) = V0.map (·.i)) (K1:KV tr V0 σ₀ σ1) (hw:σ₀ wa = none)
    (w1:σ1 wa = some (.list ((c.wt m ++ if mb then [r.root] else []).map opt))) (hm:(mb = true∧r' = r) ∨ (mb = false∧(∃ k,r' = r.add k)∧r'.vals 0 = (r.vals 0).map (gWent at_ many)))
    (J:∀ c' m' σ',GW (gWent at_ many) σ₀ tr cnt V0 c' m' l true σ'→σ' wa = some (.list ((gwList c' m' l true).map opt))→gwWork c' m' l true < gwWork c m (.nd i d l r) true→K .next (clρ tr at_ many wa (some (.ref i))) σ') :
    W (n + 2) clTail K (clρ tr at_ many wa (some (.ref i))) σ1:=by
  obtain ⟨V1,S1,e1⟩:=S1
  have z:=(Pend.sons (G.pt rfl)).1
  have len:((c.wt m ++ if mb then [r.root] else []).map opt).length < 1000:=by
    have:=G.len hV
    unfold gwList at this
    simp only [List.length_map,List.length_append] at this ⊢
    cases mb
    · show _ + 0 < _; omega
    · exact Nat.lt_trans this (by decide)
  refine R.append (l:=wa) (w:=opt l.root) rfl ((ev_attr (e:=.var 4) (f:=.left) rfl S1.node).trans rfl) w1 len ?_
  have S2:=S1.outL (l:=wa) (o:=.list ((c.wt m ++ if mb then [r.root] else []).map opt ++ [opt l.root])) (by rw [w1]; trivial)
  have K2:=keep_new (l:=wa) (o:=.list ((c.wt m ++ if mb then [r.root] else []).map opt ++ [opt l.root])) K1 hw
  have w2:upd σ1 wa (.list ((c.wt m ++ if mb then [r.root] else []).map opt ++ [opt l.root])) wa = _:=upd_same ..
  generalize upd σ1 wa (.list ((c.wt m ++ if mb then [r.root] else []).map opt ++ [opt l.root])) = σ2 at *
  have hwa:wa ∉ tr :: V0.map (·.i):=by rw [← e1]; exact S2.apartL (by rw [w2]; trivial)
  refine R.setIf (d':={ d with begin_:=went at_ many d.begin_ }) ⟨V1,S2,e1⟩ (ev_cmp (op:=.gt) (b:=.var 1) (i:=d.begin_) (j:=at_) ((ev_attr (e:=.var 4) (f:=.begin_) rfl S2.node).trans rfl) rfl) rfl ?_ ?_ fun σ3 S3 K3=>?_
  · intro h
    refine ⟨_,ev_max (a:=.var 1) (i:=at_) (j:=d.begin_ - many) rfl (ev_sub (b:=.var 2) (j:=many) ((ev_attr (e:=.var 4) (f:=.begin_) rfl S2.node).trans rfl) rfl),?_⟩
    unfold went
    rw [if_pos (of_decide_eq_true h)]; rfl
  · intro h
    unfold went
    rw [if_neg (of_decide_eq_false h)]
  have w3:=K3 wa _ hwa w2
  obtain ⟨V3,S3,e3⟩:=S3
  refine R.setIf (d':={ d with begin_:=went at_ many d.begin_,end_:=went at_ many d.end_ }) ⟨V3,S3,e3⟩ (ev_cmp (op:=.gt) (b:=.var 1) (i:=d.end_) (j:=at_) ((ev_attr (e:=.var 4) (f:=.end_) rfl S3.node).trans rfl) rfl) rfl ?_ ?_ fun σ4 S4 K4=>?_
  · intro h
    refine ⟨_,ev_max (a:=.var 1) (i:=at_) (j:=d.end_ - many) rfl (ev_sub (b:=.var 2) (j:=many) ((ev_attr (e:=.var 4) (f:=.end_) rfl S3.node).trans rfl) rfl),?_⟩
    unfold went
    rw [if_pos (of_decide_eq_true h)]; rfl
  · intro h
    unfold went
    rw [if_neg (of_decide_eq_false h)]
  have w4:=K4 wa _ hwa w3
  obtain ⟨V4,S4,e4⟩:=S4
  refine R.call (n:=n + 2) (vs:=[.ref i]) rfl (renewLimits_ok (n:=n + 1) S4 (unplug_cLim G.O.lim) fun σ5 S5 K5=>?_)
  have w5:=K5 wa _ (e4 ▸ hwa) w4
  obtain ⟨g1,g2,g3⟩:=GW.next (mb:=mb) (d':={ d with begin_:=went at_ many d.begin_,end_:=went at_ many d.end_ }) G S5 (((K2.trans K3).trans K4).trans (KV_of e4 K5)) z rfl (by
    show En.mk i d.number (_ + 0) (_ + 0) d.front d.rear = En.mk i d.number (went at_ many (d.begin_ + 0)) (went at_ many (d.end_ + 0)) d.front d.rear
    simp only [Int.add_zero]) hm
  refine J _ _ σ5 g1 ?_ g3
  rw [w5]
  unfold gwList
  rw [g2,if_pos rfl,List.map_append (l₂:=[l.root])]
  rfl
theorem add_vals_map (many:Int):∀ (t:T) (o:Int),t.vals (o + many) = (t.vals o).map fun y=>{ y with b:=y.b + many,e:=y.e + many }
  | .nil,_=>rfl
  | .nd i d l r,o=>by
    show l.vals (o + many + d.offset) ++ d.en i (o + many + d.offset) :: r.vals (o + many + d.offset) = List.map _ (l.vals (o + d.offset) ++ d.en i (o + d.offset) :: r.vals (o + d.offset))
    rw [List.map_append,List.map_cons,← add_vals_map many l,← add_vals_map many r,show o + many + d.offset = o + d.offset + many by omega]
    congr 2
    show En.mk i d.number (d.begin_ + (o + d.offset + many)) (d.end_ + (o + d.offset + many)) _ _ = En.mk i d.number (d.begin_ + (o + d.offset) + many) (d.end_ + (o + d.offset) + many) _ _
    congr 1 <;> omega
theorem add_went {at_ many:Int} {r:T} (hm:0 < many) (hr:∀ y ∈ r.vals 0,at_ + many < y.b∧y.b ≤ y.e):(r.add (-many)).vals 0 = (r.vals 0).map (gWent at_ many):=by
  rw [T.add_vals,add_vals_map]
  refine List.map_congr_left fun y hy=>?_
  obtain ⟨h1,h2⟩:=hr y hy
  unfold gWent went
  rw [if_pos (show y.b > at_ by omega),if_pos (show y.e > at_ by omega),if_pos (show y.b - many > at_ by omega),if_pos (show y.e - many > at_ by omega)]
  rfl
theorem closeGap_ok {n:Nat} {Q:SV→Hp→Prop} {σ:Hp} {tr:Nat} {cnt:Int} {V:List En} {t:T} {at_ many:Int} (hm:0 < many) (S:St σ tr cnt V .top t) (O:Ok t) (z:t.Z) (so:Srt V) (be:∀ y ∈ V,y.b ≤ y.e) (hV:V.length < 900)
    (k:∀ σ' t',St σ' tr cnt (V.map (gWent at_ many)) .top t'→Ok t'→KV tr V σ σ'→Q .none σ'):wpFn fnD (n + 4) .closeGap [.ref tr,.int at_,.int many] Q σ:=by
  refine ⟨rfl,R.iteF (n:=n + 2) (ev_cmp (op:=.le) (a:=.var 2) (b:=.int 0) (i:=many) (j:=0) rfl rfl) (decide_eq_false (by omega)) (R.newL1 (n:=n + 2) (v:=opt t.root) (ev_attrT (e:=.var 0) rfl S.ctx) fun wa hwa=>?_)⟩
  have S1:=S.outL (l:=wa) (o:=.list [opt t.root]) (by rw [hwa]; trivial)
  have K1:KV tr V σ (upd σ wa (.list [opt t.root])):=Keep.new hwa
  have w1:upd σ wa (.list [opt t.root]) wa = _:=upd_same ..
  generalize upd σ wa (.list [opt t.root]) = σ1 at *
  refine R.while (n:=n + 2) (fun s:C × List Bool × T × Bool=>gwWork s.1 s.2.1 s.2.2.1 s.2.2.2) (fun s ρ σ'=>(∃ x,ρ = clρ tr at_ many wa x)∧GW (gWent at_ many) σ tr cnt V s.1 s.2.1 s.2.2.1 s.2.2.2 σ'∧σ' wa = some (.list ((gwList s.1 s.2.1 s.2.2.1 s.2.2.2).map opt)))
    (.top,[],t,true) ⟨⟨none,rfl⟩,GW.start S1 O z so be K1,w1⟩ ?_
  rintro ⟨c,m,t,p⟩ ρ σ2 ⟨⟨x,rfl⟩,G,w2⟩
  have G:GW (gWent at_ many) σ tr cnt V c m t p σ2:=G
  have w2:σ2 wa = some (.list ((gwList c m t p).map opt)):=w2
  have len:=G.len hV
  refine ⟨_,ev_any (a:=.var 3) rfl w2 (Nat.lt_trans len (by decide)),fun q=>?_,fun q J hJ=>?_⟩
  · have e:gwList c m t p = []:=by
      cases h:gwList c m t p with
      | nil=>rfl
      | cons a b=>rw [h] at q; cases q
    exact Fq.now (fl:=.next) (k σ2 _ (G.fin e) G.O G.K)
  · have ne:gwList c m t p ≠ []:=fun e=>by rw [e] at q; cases q
    obtain ⟨ws,o,e⟩:=snoc_of ne
    obtain ⟨c1,m1,t1,G1,e1,e2,e3⟩:=G.pop e
    rw [e,List.map_append] at w2
    rw [e,List.map_append,List.length_append] at len
    refine R.pop (l:=wa) (w:=opt o) rfl w2 (Nat.lt_trans (Nat.lt_of_le_of_lt (Nat.le_add_right _ _) len) (by decide)) ?_
    have G2:=G1.out (ws:=ws.map opt) w2 hwa
    have w3:upd σ2 wa (.list (ws.map opt)) wa = _:=upd_same ..
    generalize upd σ2 wa (.list (ws.map opt)) = σ3 at *
    have jump:∀ c' m' t' p' x' σ',GW (gWent at_ many) σ tr cnt V c' m' t' p' σ'→σ' wa = some (.list ((gwList c' m' t' p').map opt))→gwWork c' m' t' p' < gwWork c1 m1 t1 true→J (clρ tr at_ many wa x') σ':=fun c' m' t' p' x' σ' h1 h2 h3 =>
      hJ (c',m',t',p') _ σ' (by show gwWork c' m' t' p' < gwWork c m t p; rw [e3]; exact h3) ⟨⟨x',rfl⟩,h1,h2⟩
    have wskip:σ3 wa = some (.list ((gwList c1 m1 t1 false).map opt)):=by rw [w3,← e1]; unfold gwList; rw [if_neg Bool.false_ne_true,List.append_nil]
    subst e2
    cases t1 with
    | nil=>exact R.iteF (ev_isNone (o:=none) rfl) rfl (jump c1 m1 .nil false _ σ3 (G2.skip fun y hy=>nomatch hy) wskip (by unfold gwWork; rw [if_neg Bool.false_ne_true,if_pos rfl]; exact Nat.add_lt_add_left (Nat.succ_pos _) _))
    | nd i d l r =>
      obtain ⟨h0,Pl,Pr,hl,hr,hbe⟩:=Pend.sons (G2.pt rfl)
      obtain ⟨V3,S3,e4⟩:=G2.S
      refine R.iteT (ev_isNone (o:=some i) rfl) rfl (R.call rfl (handDown_zero (n:=n + 1) S3.node h0 ?_))
      have eb:=(ev_attr (e:=.var 4) (f:=.begin_) (ρ:=clρ tr at_ many wa (some (.ref i))) rfl S3.node).trans rfl
      have erx:=(ev_attr (e:=.var 4) (f:=.right) (ρ:=clρ tr at_ many wa (some (.ref i))) rfl S3.node).trans rfl
      have ecmp:=ev_cmp (op:=.gt) (b:=.var 1) (j:=at_) (i:=d.limit) ((ev_attr (e:=.var 4) (f:=.limit) (ρ:=clρ tr at_ many wa (some (.ref i))) rfl S3.node).trans rfl) rfl
      have ebm:=ev_cmp (op:=.gt) (i:=d.begin_) (j:=at_ + many) eb (ev_add (a:=.var 1) (b:=.var 2) rfl rfl)
      by_cases q2:d.limit > at_
      · refine R.iteT ecmp (decide_eq_true q2) ?_
        have tail:∀ (mb:Bool) (r':T) σ4,(∃ V,St σ4 tr cnt V c1 (.nd i d l r')∧V.map (·.i) = _)→KV tr V σ σ4→σ4 wa = some (.list ((c1.wt m1 ++ if mb then [r.root] else []).map opt))→((mb = true∧r' = r) ∨ (mb = false∧(∃ k,r' = r.add k)∧r'.vals 0 = (r.vals 0).map (gWent at_ many))) →
            W (n + 2) clTail (fun fl ρ σ=>match fl with | .next=>J ρ σ | .ret w=>Fq Q (.ret w) ρ σ) (clρ tr at_ many wa (some (.ref i))) σ4:=fun mb r' σ4 h1 h2 h3 h4 =>
          cl_tail (n:=n) hV G2 h1 h2 hwa h3 h4 fun c' m' σ' g1 g2 g3=>jump c' m' l true _ σ' g1 g2 g3
        have push:ev σ3 (clρ tr at_ many wa (some (.ref i))) (.and (.is true (.attr (.var 4) .right) .none) (.cmp .gt (.attr (.var 4) .begin_) (.bin .add (.var 1) (.var 2)))) = some (.bool false)→W (n + 2) (.cons (.ite (.and (.is true (.attr (.var 4) .right) .none) (.cmp .gt (.attr (.var 4) .begin_) (.bin .add (.var 1) (.var 2)))) (.cons (.setattr (.attr (.var 4) .right) .offset (.bin .sub (.attr (.attr (.var 4) .right) .offset) (.var 2))) .nil) (.cons (.expr (.append (.var 3) (.attr (.var 4) .right))) .nil)) clTail) (fun fl ρ σ=>match fl with | .next=>J ρ σ | .ret w=>Fq Q (.ret w) ρ σ) (clρ tr at_ many wa (some (.ref i))) σ3:=fun ef=>R.iteF ef rfl (R.append (a:=.var 3) (l:=wa) (w:=opt r.root) rfl erx w3 (Nat.lt_trans (Nat.lt_of_le_of_lt (Nat.le_add_right _ _) len) (by decide)) (tail true r _ ⟨V3,S3.outL (by rw [w3]; trivial),e4⟩ (keep_new G2.K hwa) (by
            rw [upd_same,e1,if_pos rfl,List.map_append]; rfl) (.inl ⟨rfl,rfl⟩)))
        by_cases q3:d.begin_ > at_ + many
        · cases r with
          | nil=>exact push (ev_and (t:=false) (ev_isNone (o:=none) erx) rfl)
          | nd j dj a b =>
            obtain ⟨n1,⟨V4,S4,e5⟩,K4⟩:=S3.addR (-many) e4
            refine R.iteT (b:=true) (ev_and (t:=true) (ev_isNone (o:=some j) erx) (ebm.trans (congrArg (fun b=>some (SV.bool b)) (decide_eq_true q3)))) rfl ?_
            refine R.setattr (a:=j) (w:=.int (dj.offset - many)) (so':=nodeO { dj with offset:=dj.offset + -many } a.root b.root (some i)) (ev_sub (b:=.var 2) (j:=many) ((ev_attr (e:=.attr (.var 4) .right) (f:=.offset) erx n1).trans rfl) rfl) erx n1 rfl ?_
            refine tail false (T.add (-many) (.nd j dj a b)) _ ⟨V4,S4,e5⟩ (G2.K.trans K4) ?_ (.inr ⟨rfl,⟨-many,rfl⟩,add_went hm fun y hy=>⟨?_,Pr.2.2 y hy⟩⟩)
            · rw [if_neg Bool.false_ne_true,List.append_nil,e1]
              exact K4 wa _ (e4 ▸ S3.apartL (by rw [w3]; trivial)) w3
            · have:=hr y hy; omega
        · refine push ?_
          have q4:=ebm.trans (congrArg (fun b=>some (SV.bool b)) (decide_eq_false q3))
          cases r with
          | nil=>exact ev_and (t:=false) (ev_isNone (o:=none) erx) rfl
          | nd j e a b=>exact ev_and (t:=true) (ev_isNone (o:=some j) erx) q4
      · refine R.iteF ecmp (decide_eq_false q2) (jump c1 m1 _ false _ σ3 (G2.skip fun y hy=>?_) wskip (by unfold gwWork; rw [if_neg Bool.false_ne_true,if_pos rfl]; exact Nat.add_lt_add_left (Nat.succ_pos _) _))
        have a1:=lim_vals (unplug_Lim G2.O.lim) rfl y hy
        have a2:y.e ≤ d.limit + d.offset + 0:=a1
        have a3:=(G2.pt rfl).2.2 y hy
        unfold gWent went
        rw [if_neg (by omega),if_neg (by omega)]
end Mine
namespace Mine
theorem find_in {σ:Hp} {tr:Nat} {cnt:Int} {V:List En} {y:En}:∀ {t:T} {c:C},St σ tr cnt V c t→t.Z→y ∈ t.vals 0→∃ c' d l r,St σ tr cnt V c' (.nd y.i d l r)∧plug c' (.nd y.i d l r) = plug c t∧d.en y.i 0 = y
  | .nil,_,_,_,h=>nomatch h
  | .nd i d l r,c,S,z,h=>by
    rw [vals_off z.1] at h
    rcases List.mem_append.mp h with h | h
    · exact find_in (c:=.L i d r c) S.downL z.2.1 h
    · rcases List.mem_cons.mp h with rfl | h
      · exact ⟨c,d,l,r,S,rfl,rfl⟩
      · exact find_in (c:=.R i d l c) S.downR z.2.2 h
theorem St.all {σ:Hp} {tr:Nat} {cnt:Int} {V:List En} {t:T} (S:St σ tr cnt V .top t):t.vals 0 = V:=by
  have:[] ++ (t.vals 0 ++ []) = V:=S.vals
  simpa using this
theorem compGo_pure {l:Nat} {vs:List SV} {C W:SV→(SV→Hp→Prop)→Hp→Prop} {f:SV→Bool} {e:SV→SV} {σ:Hp} {K:List SV→Hp→Prop} (hl:σ l = some (.list vs)) (hC:∀ v ∈ vs,∀ K:SV→Hp→Prop,K (.bool (f v)) σ→C v K σ) (hW:∀ v ∈ vs,f v = true→∀ K:SV→Hp→Prop,K (e v) σ→W v K σ) :
    ∀ (rest acc:List SV),(∀ v ∈ rest,v ∈ vs)→acc.length + rest.length < 1000→K (acc ++ (rest.filter f).map e) σ→compGo l vs C W rest acc K σ
  | [],acc,_,_,k=>by
    have k:K (acc ++ []) σ:=k
    rw [List.append_nil] at k
    exact k
  | v :: r,acc,hm,hz,k=>by
    refine hC v (hm v (.head _)) _ ⟨f v,rfl,?_⟩
    rw [List.length_cons] at hz
    cases q:f v with
    | true =>
      rw [if_pos rfl]
      refine hW v (hm v (.head _)) q _ ⟨hl,by omega,compGo_pure hl hC hW r (acc ++ [e v]) (fun w hw=>hm w (.tail _ hw)) (by rw [List.length_append]; show acc.length + 1 + r.length < 1000; omega) ?_⟩
      rw [List.filter_cons,q] at k
      rw [List.append_assoc]
      exact k
    | false =>
      rw [if_neg Bool.false_ne_true]
      refine ⟨hl,compGo_pure hl hC hW r acc (fun w hw=>hm w (.tail _ hw)) (by omega) ?_⟩
      rw [List.filter_cons,q] at k
      exact k
section
variable {n:Nat} {Q:Fl→Lc→Hp→Prop} {ρ:Lc} {σ:Hp} {r:Ss}
theorem R.forList {x l:Nat} {a:E} {body:Ss} {vs:List SV} (ha:ev σ ρ a = some (.ref l)) (hl:σ l = some (.list vs))
    (k:forGo x (fun K ρ σ=>wpSs (wpFn fnD (n + 1)) body K ρ σ) (fun σ'=>σ' l = some (.list vs)) vs (Kn (wpFn fnD (n + 1)) r Q) ρ σ):W n (.cons (.forList x a body) r) Q ρ σ :=
  ev_ok (e:=a) ha ⟨l,rfl,vs,listAt_ref hl,k⟩
end
noncomputable def mvB (at_:Int) (bm:Bool) (y:En):Bool:=decide (y.b = at_) && (bm || (y.front && (decide (y.b ≠ y.e) || y.rear)))
noncomputable def came (at_ many:Int) (bm:Bool) (y:En):En:={ y with b:=if decide (y.b > at_) || mvB at_ bm y then y.b + many else y.b,e:=if growsB y at_ bm then y.e + many else y.e }
theorem beginsToMove_ok {n:Nat} {Q:SV→Hp→Prop} {σ:Hp} {i:Nat} {nd:Nd} {at_:Int} {bm:Bool} (h:σ i = some (.node nd)) (k:Q (.bool (mvB at_ bm (nd.en i))) σ):wpFn fnD (n + 2) .beginsToMove [.ref i,.int at_,.bool bm] Q σ:=by
  have eb:=(ev_attr (e:=.var 0) (f:=.begin_) (ρ:=[some (.ref i),some (.int at_),some (.bool bm)]) rfl h).trans rfl
  have ee:=(ev_attr (e:=.var 0) (f:=.end_) (ρ:=[some (.ref i),some (.int at_),some (.bool bm)]) rfl h).trans rfl
  have er:=(ev_attr (e:=.var 0) (f:=.rear) (ρ:=[some (.ref i),some (.int at_),some (.bool bm)]) rfl h).trans rfl
  have ef:=(ev_attr (e:=.var 0) (f:=.front) (ρ:=[some (.ref i),some (.int at_),some (.bool bm)]) rfl h).trans rfl
  have k:Q (.bool (decide (nd.begin_ = at_) && (bm || (nd.front && (decide (nd.begin_ ≠ nd.end_) || nd.rear))))) σ:=k
  refine ⟨rfl,?_⟩
  have ec:=ev_cmp (op:=.ne) (b:=.var 1) (i:=nd.begin_) (j:=at_) eb rfl
  by_cases q:nd.begin_ = at_
  · rw [decide_eq_true q] at k
    refine R.iteF (n:=n) ec (decide_eq_false fun h=>h q) ?_
    cases bm with
    | true=>exact R.iteT (n:=n) (b:=true) rfl rfl (R.ret (v:=.bool true) rfl (Fq.now (fl:=.ret _) k))
    | false =>
      refine R.iteF (n:=n) (b:=false) rfl rfl (R.ret (v:=.bool (nd.front && (decide (nd.begin_ ≠ nd.end_) || nd.rear))) (ev_and (t:=nd.front) ef ?_) (Fq.now (fl:=.ret _) k))
      cases nd.front with
      | false=>rfl
      | true =>
        refine (ev_or (t:=decide (nd.begin_ ≠ nd.end_)) (ev_cmp (op:=.ne) (i:=nd.begin_) (j:=nd.end_) eb ee) (v:=.bool (decide (nd.begin_ ≠ nd.end_) || nd.rear)) ?_)
        cases decide (nd.begin_ ≠ nd.end_) with
        | true=>rfl
        | false=>exact er
  · rw [decide_eq_false q] at k
    exact R.iteT (n:=n) ec (decide_eq_true q) (R.ret (v:=.bool false) rfl (Fq.now (fl:=.ret _) k))
theorem nodup_of_map {α β:Type} {f:α→β} {l:List α} (h:(l.map f).Nodup):l.Nodup:=List.Pairwise.imp (fun h e=>h (by rw [e])) (List.pairwise_map.mp h)
theorem St.lenids {σ:Hp} {tr:Nat} {cnt:Int} {V:List En} {c:C} {t:T} (S:St σ tr cnt V c t):(V.map (·.i)).Nodup∧tr ∉ V.map (·.i):=by
  have:=S.nd
  rw [List.nodup_cons] at this
  exact this.symm
theorem Srt.came {at_ many:Int} {bm:Bool} {V:List En} (h:Srt V) (hm:0 < many):Srt (V.map (gCame at_ many bm)):=by
  refine List.pairwise_map.mpr (h.imp ?_)
  intro a b hab
  show (if a.b > at_ then a.b + many else a.b) ≤ (if b.b > at_ then b.b + many else b.b)
  split <;> split <;> omega
theorem Srt.went {at_ many:Int} {V:List En} (h:Srt V) (hm:0 < many):Srt (V.map (gWent at_ many)):=by
  refine List.pairwise_map.mpr (h.imp ?_)
  intro a b hab
  show Mine.went at_ many a.b ≤ Mine.went at_ many b.b
  unfold Mine.went
  split <;> split <;> (try split) <;> (try split) <;> omega
end Mine
namespace Mine
theorem St.nodeOf {σ:Hp} {tr:Nat} {cnt:Int} {V:List En} {t:T} {y:En} (S:St σ tr cnt V .top t) (z:t.Z) (h:y ∈ V):∃ nx,σ y.i = some (.node nx)∧nx.en y.i = y:=by
  obtain ⟨c,d,l,r,S',_,e⟩:=find_in S z (by rw [S.all]; exact h)
  refine ⟨_,S'.node,?_⟩
  refine Eq.trans ?_ e
  show En.mk y.i d.number d.begin_ d.end_ d.front d.rear = En.mk y.i d.number (d.begin_ + 0) (d.end_ + 0) d.front d.rear
  rw [Int.add_zero,Int.add_zero]
noncomputable def mvF (σ:Hp) (at_:Int) (bm:Bool):SV→Bool
  | .ref i=>match σ i with
    | some (.node nd)=>mvB at_ bm (nd.en i)
    | _=>false
  | _=>false
theorem mvF_ok {σ:Hp} {at_:Int} {bm:Bool} {i:Nat} {nd:Nd} (h:σ i = some (.node nd)):mvF σ at_ bm (.ref i) = mvB at_ bm (nd.en i):=by
  show (match σ i with | some (.node nd)=>mvB at_ bm (nd.en i) | _=>false) = _
  rw [h]
theorem refs_filter {σ:Hp} {at_:Int} {bm:Bool}:∀ {H:List En},(∀ y ∈ H,∃ nx,σ y.i = some (.node nx)∧nx.en y.i = y)→(refs H).filter (mvF σ at_ bm) = refs (H.filter (mvB at_ bm))
  | [],_=>rfl
  | y :: H,h=>by
    obtain ⟨nx,h1,h2⟩:=h y (.head _)
    have ih:=refs_filter (at_:=at_) (bm:=bm) fun z hz=>h z (.tail _ hz)
    show List.filter _ (.ref y.i :: refs H) = _
    rw [List.filter_cons,List.filter_cons,mvF_ok h1,h2,ih]
    cases mvB at_ bm y <;> rfl
noncomputable abbrev ogρ (tr:Nat) (at_ many:Int) (bm:Bool) (mv:Nat) (x:Option SV):Lc:=[some (.ref tr),some (.int at_),some (.int many),some (.bool bm),some (.ref mv),x,none]
theorem mem_split_map {α:Type} {f:α→Nat} {D W:List α} {y:α} (h:((D ++ W).map f).Nodup) (hy:y ∈ D):f y ∉ W.map f:=fun q=>by
  rw [List.map_append,List.nodup_append] at h
  exact h.2.2 _ (List.mem_map_of_mem hy) _ q rfl
inductive DropI (σ:Hp) (tr mv:Nat) (cnt:Int) (V M:List En) (at_ many:Int) (bm:Bool) (rest:List SV) (ρ:Lc) (σ':Hp):Prop
  | mk (x:Option SV) (D Rm U:List En) (t:T) (eρ:ρ = ogρ tr at_ many bm mv x) (eM:M = D ++ Rm) (eR:rest = refs Rm) (S:St σ' tr (cnt - D.length) U .top t) (O:OkZ t) (hU:U.Sublist V) (hP:V.Perm (D ++ U)) (hD:∀ y ∈ D,∃ nx,σ' y.i = some (.node nx)∧nx.en y.i = y) (K:KV tr V σ σ')
theorem og_drop {n:Nat} {Q:Fl→Lc→Hp→Prop} {σ:Hp} {tr mv:Nat} {cnt:Int} {V M:List En} {at_ many:Int} {bm:Bool} {t:T} {r:Ss} {x:Option SV} (S:St σ tr cnt V .top t) (O:OkZ t) (hV:V.length < 900) (hM:M.Sublist V) (hm:σ mv = some (.list (refs M)))
    (k:∀ σ' t' U x',St σ' tr (cnt - M.length) U .top t'→OkZ t'→U.Sublist V→V.Perm (M ++ U)→(∀ y ∈ M,∃ nx,σ' y.i = some (.node nx)∧nx.en y.i = y)→KV tr V σ σ'→W (n + 8) r Q (ogρ tr at_ many bm mv x') σ') :
    W (n + 8) (.cons (.forList 5 (.var 4) (.cons (.expr (.call .dropNode (.cons (.var 0) (.cons (.var 5) .nil)))) .nil)) r) Q (ogρ tr at_ many bm mv x) σ:=by
  have nd:=S.lenids
  refine R.forList (l:=mv) rfl hm (forGo_rule (DropI σ tr mv cnt V M at_ many bm) ?_ ?_ _ _ _
    ⟨x,[],M,V,t,rfl,rfl,rfl,by show St σ tr (cnt - 0) V .top t; rw [Int.sub_zero]; exact S,O,List.Sublist.refl _,.refl _,(fun _ h=>nomatch h),Keep.refl⟩)
  · rintro v rest ρ σ' J ⟨x,D,Rm,U,t,rfl,eM,eR,S',O',hU,hP,hD,K'⟩ hJ
    cases Rm with
    | nil=>cases eR
    | cons y Rm =>
      have eR:v :: rest = SV.ref y.i :: refs Rm:=eR
      cases eR
      have ndP:((D ++ U).map (·.i)).Nodup:=(hP.map (·.i)).nodup_iff.mp nd.1
      have yM:y ∈ M:=by rw [eM]; exact List.mem_append_right _ (.head _)
      have yD:y ∉ D:=fun q=>by
        have h1:M.Nodup:=List.Nodup.sublist hM (nodup_of_map nd.1)
        rw [eM,List.nodup_append] at h1
        exact h1.2.2 y q y (.head _) rfl
      have yU:y ∈ U:=by
        rcases List.mem_append.mp (hP.mem_iff.mp (hM.mem yM)) with h | h
        · exact absurd h yD
        · exact h
      obtain ⟨c,d,l,r',S2,ep,ey⟩:=find_in S' O'.z (by rw [S'.all]; exact yU)
      have ep:plug c (.nd y.i d l r') = t:=ep
      refine R.call (n:=n + 8) rfl (dropNode_ok (n:=n + 1) S2 (ep ▸ O') (Nat.lt_of_le_of_lt hU.length_le hV) fun σ3 t3 A B eU S3 O3 hx K3=>?_)
      rw [ey] at eU hx
      obtain ⟨nx,hx1,hx2⟩:=hx
      have Ksub:KV tr V σ' σ3:=K3.mono fun z hz=>by
        rcases List.mem_cons.mp hz with q | q
        · rw [q]; exact .head _
        · exact .tail _ ((hU.map (·.i)).mem q)
      have mv':σ3 mv = some (.list (refs M)):=(K'.trans Ksub) mv _ (S.apartL (by rw [hm]; trivial)) hm
      refine ⟨mv',hJ _ σ3 ⟨_,D ++ [y],Rm,A ++ B,t3,rfl,by rw [eM,List.append_assoc]; rfl,rfl,?_,O3,?_,?_,?_,K'.trans Ksub⟩⟩
      · have:cnt - ((D ++ [y]).length:Int) = cnt - D.length - 1:=by rw [List.length_append]; show cnt - ((D.length + 1:Nat):Int) = _; omega
        rw [this]; exact S3
      · refine List.Sublist.trans ?_ hU
        rw [eU]
        exact List.Sublist.append (List.Sublist.refl _) (List.sublist_cons_self _ _)
      · refine hP.trans ?_
        rw [eU,List.append_assoc]
        exact List.Perm.append_left D List.perm_middle
      · intro w hw
        rcases List.mem_append.mp hw with hw | hw
        · obtain ⟨nw,w1,w2⟩:=hD w hw
          refine ⟨nw,K3 w.i _ ?_ w1,w2⟩
          intro q
          rcases List.mem_cons.mp q with q | q
          · have:w ∈ V:=hM.mem (by rw [eM]; exact List.mem_append_left _ hw)
            exact nd.2 (q ▸ List.mem_map_of_mem this)
          · exact mem_split_map ndP hw q
        · rw [List.mem_singleton.mp hw]; exact ⟨nx,hx1,hx2⟩
  · rintro ρ σ' ⟨x,D,Rm,U,t,rfl,eM,eR,S',O',hU,hP,hD,K'⟩
    cases Rm with
    | cons _ _=>cases eR
    | nil =>
      rw [List.append_nil] at eM
      subst eM
      exact k σ' t U x S' O' hU hP hD K'
end Mine
namespace Mine
theorem og_test {σ:Hp} {tr mv i:Nat} {at_ many:Int} {bm:Bool} {nd:Nd} (h:σ i = some (.node nd)) (he:at_ ≤ nd.end_) :
    ev σ (ogρ tr at_ many bm mv (some (.ref i))) (.or (.cmp .ne (.attr (.var 5) .end_) (.var 1)) (.or (.attr (.var 5) .rear) (.var 3))) = some (.bool (growsB (nd.en i) at_ bm)):=by
  have ee:=(ev_attr (e:=.var 5) (f:=.end_) (ρ:=ogρ tr at_ many bm mv (some (.ref i))) rfl h).trans rfl
  have er:=(ev_attr (e:=.var 5) (f:=.rear) (ρ:=ogρ tr at_ many bm mv (some (.ref i))) rfl h).trans rfl
  have e1:growsB (nd.en i) at_ bm = (decide (nd.end_ > at_) || (decide (nd.end_ = at_) && (bm || nd.rear))):=rfl
  rw [e1]
  by_cases q:nd.end_ = at_
  · refine ev_or (t:=false) ((ev_cmp (op:=.ne) (b:=.var 1) (i:=nd.end_) (j:=at_) ee rfl).trans (congrArg (fun b=>some (SV.bool b)) (decide_eq_false fun h=>h q))) ?_
    rw [decide_eq_true q,decide_eq_false (show ¬ nd.end_ > at_ by omega)]
    refine ev_or (t:=nd.rear) er ?_
    cases nd.rear <;> cases bm <;> rfl
  · refine ev_or (t:=true) ((ev_cmp (op:=.ne) (b:=.var 1) (i:=nd.end_) (j:=at_) ee rfl).trans (congrArg (fun b=>some (SV.bool b)) (decide_eq_true q))) ?_
    rw [decide_eq_true (show nd.end_ > at_ by omega)]
    rfl
theorem mvB_b {at_:Int} {bm:Bool} {y:En} (h:mvB at_ bm y = true):y.b = at_:=by
  unfold mvB at h
  rw [Bool.and_eq_true] at h
  exact of_decide_eq_true h.1
inductive PutI (σ:Hp) (tr mv:Nat) (cnt:Int) (V U M:List En) (at_ many:Int) (bm:Bool) (rest:List SV) (ρ:Lc) (σ':Hp):Prop
  | mk (x:Option SV) (D Rm V2:List En) (t:T) (eρ:ρ = ogρ tr at_ many bm mv x) (eM:M = D ++ Rm) (eR:rest = refs Rm) (S:St σ' tr (cnt + D.length) V2 .top t) (O:Ok t) (so:Srt V2) (hP:V2.Perm (D.map (came at_ many bm) ++ U)) (hD:∀ y ∈ Rm,∃ nx,σ' y.i = some (.node nx)∧nx.en y.i = y) (K:KV tr V σ σ')
theorem og_put {n:Nat} {Q:SV→Hp→Prop} {σ:Hp} {tr mv:Nat} {cnt:Int} {V V1 U M:List En} {at_ many:Int} {bm:Bool} {t:T} {x:Option SV} (S:St σ tr cnt U .top t) (O:Ok t) (so:Srt U) (hids:((M ++ U).map (·.i)).Nodup) (hsub:∀ z ∈ (M ++ U).map (·.i),z ∈ V.map (·.i)) (htr:tr ∉ V.map (·.i)) (hmv:mv ∉ tr :: V.map (·.i)) (hm:σ mv = some (.list (refs M)))
    (hn:∀ y ∈ M,∃ nx,σ y.i = some (.node nx)∧nx.en y.i = y) (hM:∀ y ∈ M,mvB at_ bm y = true∧y.b ≤ y.e)
    (k:∀ σ' t' V',St σ' tr (cnt + M.length) V' .top t'→Ok t'→Srt V'→V'.Perm (M.map (came at_ many bm) ++ U)→KV tr V σ σ'→Q .none σ') :
    W (n + 8) (.cons (.forList 5 (.var 4) (.cons (.ite (.or (.cmp .ne (.attr (.var 5) .end_) (.var 1)) (.or (.attr (.var 5) .rear) (.var 3))) (.cons (.setattr (.var 5) .end_ (.bin .add (.attr (.var 5) .end_) (.var 2))) .nil) .nil) (.cons (.setattr (.var 5) .begin_ (.bin .add (.attr (.var 5) .begin_) (.var 2))) (.cons (.expr (.call .putNode (.cons (.var 0) (.cons (.var 5) .nil)))) .nil)))) .nil) (Fq Q) (ogρ tr at_ many bm mv x) σ:=by
  refine R.forList (l:=mv) rfl hm (forGo_rule (PutI σ tr mv cnt V U M at_ many bm) ?_ ?_ _ _ _
    ⟨x,[],M,U,t,rfl,rfl,rfl,by show St σ tr (cnt + 0) U .top t; rw [Int.add_zero]; exact S,O,so,.refl _,hn,Keep.refl⟩)
  · rintro v rest ρ σ' J ⟨x,D,Rm,V2,t,rfl,eM,eR,S',O',so',hP,hD,K'⟩ hJ
    cases Rm with
    | nil=>cases eR
    | cons y Rm =>
      have eR:v :: rest = SV.ref y.i :: refs Rm:=eR
      cases eR
      have yM:y ∈ M:=by rw [eM]; exact List.mem_append_right _ (.head _)
      obtain ⟨nx,n1,n2⟩:=hD y (.head _)
      obtain ⟨hmB,hbe⟩:=hM y yM
      have hb:=mvB_b hmB
      have nb:nx.begin_ = y.b:=congrArg En.b n2
      have ne:nx.end_ = y.e:=congrArg En.e n2
      -- ids
      have mapc:(D.map (came at_ many bm)).map (·.i) = D.map (·.i):=by rw [List.map_map]; rfl
      have hV2:∀ z,z ∈ V2.map (·.i) ↔ z ∈ (D ++ U).map (·.i):=fun z=>by
        rw [(hP.map (·.i)).mem_iff,List.map_append,mapc,List.map_append]
      have nd1:(y.i :: (D ++ (Rm ++ U)).map (·.i)).Nodup:=by
        have:((M ++ U).map (·.i)).Perm (y.i :: (D ++ (Rm ++ U)).map (·.i)):=by
          rw [eM,List.append_assoc]
          exact (List.perm_middle (a:=y)).map (·.i)
        exact this.nodup_iff.mp hids
      rw [List.nodup_cons] at nd1
      have yin:y.i ∈ V.map (·.i):=hsub _ (List.mem_map_of_mem (List.mem_append_left _ yM))
      have ytr:y.i ≠ tr:=fun q=>htr (q ▸ yin)
      have yV2:y.i ∉ tr :: V2.map (·.i):=fun q=>by
        rcases List.mem_cons.mp q with q | q
        · exact ytr q
        · have:=(hV2 _).mp q
          rw [List.map_append] at this
          refine nd1.1 ?_
          rw [List.map_append,List.map_append]
          rcases List.mem_append.mp this with h | h
          · exact List.mem_append_left _ h
          · exact List.mem_append_right _ (List.mem_append_right _ h)
      have V2V:∀ z ∈ y.i :: tr :: V2.map (·.i),z ∈ tr :: V.map (·.i):=fun z hz=>by
        rcases List.mem_cons.mp hz with q | q
        · rw [q]; exact .tail _ yin
        · rcases List.mem_cons.mp q with q | q
          · rw [q]; exact .head _
          · refine .tail _ (hsub _ ?_)
            have:=(hV2 _).mp q
            rw [eM,List.map_append,List.map_append]
            rw [List.map_append] at this
            rcases List.mem_append.mp this with h | h
            · exact List.mem_append_left _ (List.mem_append_left _ h)
            · exact List.mem_append_right _ h
      have et:=og_test (tr:=tr) (many:=many) (bm:=bm) (mv:=mv) (at_:=at_) n1 (by rw [ne]; omega)
      rw [n2] at et
      -- from the second row on
      have fin:∀ σ2 (n2':Nd),σ2 y.i = some (.node n2')→n2'.begin_ = nx.begin_→n2'.en y.i = { y with e:=(came at_ many bm y).e }→(∀ z,z ≠ y.i→σ2 z = σ' z) →
          W (n + 8) (.cons (.setattr (.var 5) .begin_ (.bin .add (.attr (.var 5) .begin_) (.var 2))) (.cons (.expr (.call .putNode (.cons (.var 0) (.cons (.var 5) .nil)))) .nil)) (fun fl ρ σ=>match fl with | .next=>σ mv = some (.list (refs M))∧J ρ σ | .ret w=>Kn (wpFn fnD (n + 9)) .nil (Fq Q) (.ret w) ρ σ) (ogρ tr at_ many bm mv (some (.ref y.i))) σ2:=fun σ2 m1 e1 e2 e3 f2=>by
        refine R.setattr (a:=y.i) (w:=.int (m1.begin_ + many)) (so':=.node { m1 with begin_:=m1.begin_ + many }) (ev_add (b:=.var 2) (j:=many) ((ev_attr (e:=.var 5) (f:=.begin_) rfl e1).trans rfl) rfl) rfl e1 rfl ?_
        have x3:upd σ2 y.i (.node { m1 with begin_:=m1.begin_ + many }) y.i = _:=upd_same ..
        have f3:∀ z,z ≠ y.i→upd σ2 y.i (.node { m1 with begin_:=m1.begin_ + many }) z = σ' z:=fun z hz=>(upd_ne _ _ hz).trans (f2 z hz)
        generalize upd σ2 y.i (.node { m1 with begin_:=m1.begin_ + many }) = σ3 at *
        have S3:=S'.out (σ':=σ3) fun z hz=>f3 z fun q=>yV2 (q ▸ hz)
        have een:Nd.en y.i { m1 with begin_:=m1.begin_ + many } = came at_ many bm y:=by
          have h1:m1.number = y.number:=congrArg En.number e3
          have h2:m1.end_ = (came at_ many bm y).e:=congrArg En.e e3
          have h3:m1.front = y.front:=congrArg En.front e3
          have h4:m1.rear = y.rear:=congrArg En.rear e3
          show En.mk y.i m1.number (m1.begin_ + many) m1.end_ m1.front m1.rear = En.mk y.i y.number (if (decide (y.b > at_) || mvB at_ bm y) = true then y.b + many else y.b) (came at_ many bm y).e y.front y.rear
          rw [h1,h2,h3,h4,e2,nb,hmB,Bool.or_true,if_pos rfl]
        refine R.call (n:=n + 8) rfl (putNode_ok (n:=n + 2) S3 O' so' x3 yV2 fun σ4 t4 V4 S4 O4 so4 P4 K4=>?_)
        rw [een] at P4
        have K34:KV tr V σ' σ4:=fun z o hz e=>K4 z o (fun q=>hz (V2V z q)) ((f3 z fun q=>hz (q ▸ .tail _ yin)).trans e)
        refine ⟨(K'.trans K34) mv _ hmv hm,hJ _ σ4 ⟨_,D ++ [y],Rm,V4,t4,rfl,by rw [eM,List.append_assoc]; rfl,rfl,?_,O4,so4,?_,?_,K'.trans K34⟩⟩
        · have:cnt + ((D ++ [y]).length:Int) = cnt + D.length + 1:=by rw [List.length_append]; show cnt + ((D.length + 1:Nat):Int) = _; omega
          rw [this]; exact S4
        · refine P4.trans ?_
          rw [List.map_append,List.append_assoc]
          exact (hP.cons _).trans List.perm_middle.symm
        · intro w hw
          obtain ⟨nw,w1,w2⟩:=hD w (.tail _ hw)
          have wy:w.i ≠ y.i:=fun q=>nd1.1 (by
            rw [← q,List.map_append,List.map_append]
            exact List.mem_append_right _ (List.mem_append_left _ (List.mem_map_of_mem hw)))
          refine ⟨nw,K4 w.i _ (fun q=>?_) ((f3 _ wy).trans w1),w2⟩
          rcases List.mem_cons.mp q with q | q
          · exact wy q
          · rcases List.mem_cons.mp q with q | q
            · exact htr (q ▸ hsub _ (List.mem_map_of_mem (List.mem_append_left _ (by rw [eM]; exact List.mem_append_right _ (.tail _ hw)))))
            · have h5:=(hV2 _).mp q
              have nd2:(w.i :: (D ++ U).map (·.i)).Nodup:=by
                have h6:=nd1.2
                obtain ⟨R1,R2,eR⟩:=List.append_of_mem hw
                rw [eR] at h6
                have:((D ++ ((R1 ++ w :: R2) ++ U)).map (·.i)).Perm (w.i :: (D ++ ((R1 ++ R2) ++ U)).map (·.i)):=by
                  rw [List.append_assoc,List.cons_append,← List.append_assoc D,List.append_assoc R1,← List.append_assoc D]
                  exact (List.perm_middle (a:=w)).map (·.i)
                have h7:=this.nodup_iff.mp h6
                rw [List.nodup_cons] at h7
                refine List.nodup_cons.mpr ⟨fun q=>h7.1 ?_,List.Nodup.sublist ((List.Sublist.append (List.Sublist.refl _) (List.sublist_append_right _ _)).map _) h7.2⟩
                exact ((List.Sublist.append (List.Sublist.refl D) (List.sublist_append_right _ _)).map (·.i)).mem q
              exact (List.nodup_cons.mp nd2).1 h5
      cases hg:growsB y at_ bm with
      | true =>
        rw [hg] at et
        refine R.iteT et rfl (R.setattr (a:=y.i) (w:=.int (nx.end_ + many)) (so':=.node { nx with end_:=nx.end_ + many }) (ev_add (b:=.var 2) (j:=many) ((ev_attr (e:=.var 5) (f:=.end_) rfl n1).trans rfl) rfl) rfl n1 rfl (fin _ _ (upd_same ..) rfl ?_ fun z hz=>upd_ne _ _ hz))
        show En.mk y.i nx.number nx.begin_ (nx.end_ + many) nx.front nx.rear = En.mk y.i y.number y.b (if growsB y at_ bm then y.e + many else y.e) y.front y.rear
        rw [hg,if_pos rfl,nb,ne,show nx.number = y.number from congrArg En.number n2,show nx.front = y.front from congrArg En.front n2,show nx.rear = y.rear from congrArg En.rear n2]
      | false =>
        rw [hg] at et
        refine R.iteF et rfl (fin σ' nx n1 rfl ?_ fun _ _=>rfl)
        refine n2.trans ?_
        show _ = En.mk y.i y.number y.b (if growsB y at_ bm then y.e + many else y.e) y.front y.rear
        rw [hg,if_neg Bool.false_ne_true]
  · rintro ρ σ' ⟨x,D,Rm,V2,t,rfl,eM,eR,S',O',so',hP,hD,K'⟩
    cases Rm with
    | cons _ _=>cases eR
    | nil =>
      rw [List.append_nil] at eM
      subst eM
      exact Fq.now (fl:=.next) (k σ' t V2 S' O' so' hP K')
end Mine
namespace Mine
theorem came_gCame {at_ many:Int} {bm:Bool} {y:En} (h:mvB at_ bm y = false):came at_ many bm y = gCame at_ many bm y:=by
  unfold came gCame
  rw [h,Bool.or_false]
  by_cases q:y.b > at_
  · rw [decide_eq_true q,if_pos rfl,if_pos q]
  · rw [decide_eq_false q,if_neg Bool.false_ne_true,if_neg q]
theorem R.compIfA {n:Nat} {Q:Fl→Lc→Hp→Prop} {ρ:Lc} {σ:Hp} {r:Ss} {x y:Nat} {f:Fid} {es:Es} {vs:List SV} {c elt:E} (h:evs σ ρ es = some vs)
    (k:wpFn fnD (n + 1) f vs (fun v σ=>on v.asRef fun l=>on (listAt σ v) fun vs=>vs.length < 1000∧compGo l vs (fun v K σ=>wpE (wpFn fnD (n + 1)) c (ρ.set y (some v)) K σ) (fun v K σ=>wpE (wpFn fnD (n + 1)) elt (ρ.set y (some v)) K σ) vs [] (fun ws σ=>newO (.list ws) (fun v σ=>W n r Q (ρ.set x (some v)) σ) σ) σ) σ) :
    W n (.cons (.assign x (.compIf y elt (.call f es) c)) r) Q ρ σ:=evs_ok (n:=n) h k
theorem openGap_ok {n:Nat} {Q:SV→Hp→Prop} {σ:Hp} {tr:Nat} {cnt:Int} {V:List En} {t:T} {at_ many:Int} {bm:Bool} (hm:0 < many) (S:St σ tr cnt V .top t) (O:OkZ t) (so:Srt V) (be:∀ y ∈ V,y.b ≤ y.e) (hV:V.length < 900)
    (k:∀ σ' t' V',St σ' tr cnt V' .top t'→Ok t'→Srt V'→V'.Perm (V.map (came at_ many bm))→KV tr V σ σ'→Q .none σ'):wpFn fnD (n + 10) .openGap [.ref tr,.int at_,.int many,.bool bm] Q σ:=by
  refine ⟨rfl,R.iteF (n:=n + 8) (ev_cmp (op:=.le) (a:=.var 2) (b:=.int 0) (i:=many) (j:=0) rfl rfl) (decide_eq_false (by omega)) ?_⟩
  refine R.compIfA (n:=n + 8) (vs:=[.ref tr,.int at_,.int at_]) rfl (nodesBetween_ok (n:=n + 6) S O.toOk so hV fun σ1 t1 fa S1 O1 zz hfa f1 K1=>?_)
  have z1:=zz O.z
  have hH:∀ y ∈ V.filter (hits at_ at_),∃ nx,σ1 y.i = some (.node nx)∧nx.en y.i = y:=fun y hy=>S1.nodeOf z1 (List.mem_filter.mp hy).1
  have hlen:(refs (V.filter (hits at_ at_))).length < 1000:=by
    have:=List.length_filter_le (hits at_ at_) V
    show (List.map _ _).length < 1000
    rw [List.length_map]; omega
  refine ⟨fa,rfl,_,listAt_ref f1,hlen,compGo_pure (f:=mvF σ1 at_ bm) (e:=fun v=>v) f1 (fun v hv K hK=>?_) (fun v hv _ K hK=>⟨v,rfl,hK⟩) _ _ (fun _ h=>h) (by show 0 + _ < 1000; omega) ?_⟩
  · obtain ⟨y,hy,rfl⟩:=List.mem_map.mp hv
    obtain ⟨nx,n1,n2⟩:=hH y hy
    exact evs_ok (n:=n + 8) (e:=.cons (.var 6) (.cons (.var 1) (.cons (.var 3) .nil))) (v:=[.ref y.i,.int at_,.bool bm]) rfl (beginsToMove_ok (n:=n + 7) n1 (by rw [← mvF_ok n1]; exact hK))
  rw [refs_filter hH,List.map_id',List.nil_append]
  intro mv hmv
  have nd:=S.lenids
  have Mh:∀ y ∈ V,mvB at_ bm y = true→y ∈ (V.filter (hits at_ at_)).filter (mvB at_ bm):=fun y hy h=>by
    refine List.mem_filter.mpr ⟨List.mem_filter.mpr ⟨hy,?_⟩,h⟩
    have h1:=mvB_b h
    have h2:=be y hy
    unfold hits
    rw [decide_eq_true (show y.b ≤ at_ by omega),decide_eq_true (show y.e ≥ at_ by omega)]
    rfl
  have M1:∀ y ∈ (V.filter (hits at_ at_)).filter (mvB at_ bm),mvB at_ bm y = true∧y.b ≤ y.e:=fun y hy=>⟨(List.mem_filter.mp hy).2,be y (List.mem_filter.mp (List.mem_filter.mp hy).1).1⟩
  have M2:((V.filter (hits at_ at_)).filter (mvB at_ bm)).Sublist V:=List.filter_sublist.trans List.filter_sublist
  generalize (V.filter (hits at_ at_)).filter (mvB at_ bm) = M at *
  have mvn:=S1.apartL (l:=mv) (by rw [hmv]; trivial)
  have S2:=S1.outL (l:=mv) (o:=.list (refs M)) (by rw [hmv]; trivial)
  have K2:KV tr V σ1 (upd σ1 mv (.list (refs M))):=Keep.new hmv
  have m2:upd σ1 mv (.list (refs M)) mv = _:=upd_same ..
  generalize upd σ1 mv (.list (refs M)) = σ2 at *
  refine og_drop (n:=n) (x:=none) S2 ⟨O1,z1⟩ hV M2 m2 fun σ3 t3 U x' S3 O3 hU hP hD K3=>?_
  have m3:=K3 mv _ mvn m2
  have hids:((M ++ U).map (·.i)).Nodup:=(hP.map (·.i)).nodup_iff.mp nd.1
  have KU:∀ {σ σ':Hp},KV tr U σ σ'→KV tr V σ σ':=fun h=>h.mono fun z hz=>by
    rcases List.mem_cons.mp hz with q | q
    · rw [q]; exact .head _
    · exact .tail _ ((hU.map (·.i)).mem q)
  refine R.call (n:=n + 8) rfl (shiftNodes_ok (n:=n + 5) S3 O3.toOk O3.z (so.sublist hU) (fun y hy=>be y (hU.mem hy)) (Nat.lt_of_le_of_lt hU.length_le hV) fun σ4 t4 S4 O4 K4=>?_)
  have m4:=(KU K4) mv _ mvn m3
  have em:((U.map (gCame at_ many bm)).map (·.i)) = U.map (·.i):=by rw [List.map_map]; rfl
  have hMi:∀ y ∈ M,y.i ∉ tr :: U.map (·.i):=fun y hy q=>by
    rcases List.mem_cons.mp q with q | q
    · exact nd.2 (q ▸ List.mem_map_of_mem (M2.mem hy))
    · exact mem_split_map hids hy q
  refine og_put (n:=n) (V:=V) (V1:=V) S4 O4 (Srt.came (so.sublist hU) hm) ?_ ?_ nd.2 mvn m4 (fun y hy=>?_) M1 fun σ5 t5 V' S5 O5 so5 P5 K5=>?_
  · rw [List.map_append,em,← List.map_append]; exact hids
  · intro z hz
    rw [List.map_append,em,← List.map_append] at hz
    exact (hP.map (·.i)).mem_iff.mpr hz
  · obtain ⟨nx,n1,n2⟩:=hD y hy
    exact ⟨nx,K4 _ _ (hMi y hy) n1,n2⟩
  · rw [Int.sub_add_cancel] at S5
    refine k σ5 t5 V' S5 O5 so5 (P5.trans ?_) ((((K1.trans K2).trans K3).trans (KU K4)).trans K5)
    have eU:U.map (gCame at_ many bm) = U.map (came at_ many bm):=by
      refine List.map_congr_left fun y hy=>(came_gCame ?_).symm
      cases q:mvB at_ bm y with
      | false=>rfl
      | true=>exact absurd (List.mem_map_of_mem hy) (mem_split_map (f:=(·.i)) hids (Mh y (hU.mem hy) q))
    rw [eU,← List.map_append]
    exact (hP.map _).symm
end Mine
namespace Mine
theorem TreeAt.keep {σ σ':Hp} (h:Keep [] σ σ'):∀ {t:T} {p:Option Nat},TreeAt σ t p→TreeAt σ' t p
  | .nil,_,_=>trivial
  | .nd _ _ _ _,_,⟨a,b,c⟩=>⟨h _ _ (fun q=>nomatch q) a,TreeAt.keep h b,TreeAt.keep h c⟩
noncomputable def T.fore:T→List Nat
  | .nil=>[]
  | .nd i _ l r=>i :: (r.fore ++ l.fore)
noncomputable def T.post:T→List Nat
  | .nil=>[]
  | .nd i _ l r=>l.post ++ r.post ++ [i]
theorem fore_rev:∀ t:T,t.fore.reverse = t.post
  | .nil=>rfl
  | .nd i d l r=>by
    show (i :: (r.fore ++ l.fore)).reverse = l.post ++ r.post ++ [i]
    rw [List.reverse_cons,List.reverse_append,fore_rev l,fore_rev r]
theorem fore_len:∀ t:T,t.fore.length = t.size
  | .nil=>rfl
  | .nd i d l r=>by
    show (i :: (r.fore ++ l.fore)).length = l.size + r.size + 1
    rw [List.length_cons,List.length_append,fore_len l,fore_len r]; omega
noncomputable def sumW:List T→Nat
  | []=>0
  | t :: P=>t.size + 1 + sumW P
noncomputable def sumM:List T→Nat
  | []=>0
  | t :: P=>2 * t.size + 1 + sumM P
noncomputable def foreL:List T→List Nat
  | []=>[]
  | t :: P=>t.fore ++ foreL P
theorem len_sumW:∀ P:List T,P.length ≤ sumW P
  | []=>Nat.le_refl _
  | t :: P=>by have:=len_sumW P; show P.length + 1 ≤ t.size + 1 + sumW P; omega
structure NF (σ₀:Hp) (fa wa:Nat) (t:T) (P:List T) (σ:Hp):Prop where
  tr:∀ s ∈ P,(∃ p,TreeAt σ₀ s p)∧s.Z
  K:Keep [] σ₀ σ
  f:∃ F,σ fa = some (.list (F.map SV.ref))∧F ++ foreL P = t.fore
  w:σ wa = some (.list ((P.reverse.map T.root).map opt))
  fr:σ₀ fa = none∧σ₀ wa = none∧fa ≠ wa
  sz:sumW P ≤ t.size + 1
theorem R.retRev {n:Nat} {Q:Fl→Lc→Hp→Prop} {ρ:Lc} {σ:Hp} {r:Ss} {a:E} {l:Nat} {vs:List SV} (ha:ev σ ρ a = some (.ref l)) (hl:σ l = some (.list vs)) (hz:vs.length < 1000) (k:∀ q,σ q = none→Q (.ret (.ref q)) ρ (upd σ q (.list vs.reverse))):W n (.cons (.ret (.rev a)) r) Q ρ σ :=
  ev_ok (e:=a) ha ⟨vs,listAt_ref hl,by show vs.length < 1048576; omega,k⟩
noncomputable abbrev nfρ (tr fa wa:Nat) (x:Option SV):Lc:=[some (.ref tr),some (.ref fa),some (.ref wa),x]
theorem nodesFromBelow_ok {n:Nat} {Q:SV→Hp→Prop} {σ:Hp} {tr:Nat} {cnt:Int} {V:List En} {t:T} (S:St σ tr cnt V .top t) (z:t.Z) (hV:V.length < 900)
    (k:∀ σ' fa,σ' fa = some (.list (t.post.map SV.ref))→Keep [] σ σ'→Q (.ref fa) σ'):wpFn fnD (n + 3) .nodesFromBelow [.ref tr] Q σ:=by
  have hsz:t.size < 900:=by rw [size_le (o:=0),S.all]; exact hV
  refine ⟨rfl,R.newL (n:=n + 1) fun fa hfa=>?_⟩
  have S1:=S.outL (l:=fa) (o:=.list []) (by rw [hfa]; trivial)
  refine R.newL1 (n:=n + 1) (v:=opt t.root) (ev_attrT (e:=.var 0) rfl S1.ctx) fun wa hwa=>?_
  have hne:fa ≠ wa:=fun q=>by rw [q,upd_same] at hwa; cases hwa
  have hwa':σ wa = none:=(upd_ne _ _ (Ne.symm hne)).symm.trans hwa
  have K2:Keep [] σ (upd (upd σ fa (.list [])) wa (.list [opt t.root])):=Keep.upd' (Keep.upd' Keep.refl hfa) hwa'
  have f2:upd (upd σ fa (.list [])) wa (.list [opt t.root]) fa = some (.list []):=(upd_ne _ _ hne).trans (upd_same ..)
  have w2:upd (upd σ fa (.list [])) wa (.list [opt t.root]) wa = some (.list [opt t.root]):=upd_same ..
  generalize upd (upd σ fa (.list [])) wa (.list [opt t.root]) = σ2 at *
  refine R.while (n:=n + 1) (fun P:List T=>sumM P) (fun P ρ σ'=>(∃ x,ρ = nfρ tr fa wa x)∧NF σ fa wa t P σ') [t] ⟨⟨none,rfl⟩,⟨fun s hs=>by rw [List.mem_singleton.mp hs]; exact ⟨⟨_,S.tree⟩,z⟩,K2,⟨[],f2,List.append_nil _⟩,w2,⟨hfa,hwa',hne⟩,Nat.le_refl _⟩⟩ ?_
  rintro P ρ σ3 ⟨⟨x,rfl⟩,I⟩
  have hPl:((P.reverse.map T.root).map opt).length < 1000:=by
    rw [List.length_map,List.length_map,List.length_reverse]
    exact Nat.lt_of_le_of_lt (Nat.le_trans (len_sumW P) I.sz) (Nat.lt_trans (Nat.succ_lt_succ hsz) (by decide))
  obtain ⟨F,f3,eF⟩:=I.f
  have hF:(F.map SV.ref).length < 900:=by
    have h1:=congrArg List.length eF
    rw [List.length_append,fore_len] at h1
    rw [List.length_map]; exact Nat.lt_of_le_of_lt (h1 ▸ Nat.le_add_right _ _) hsz
  refine ⟨_,ev_any (a:=.var 2) rfl I.w hPl,fun q=>?_,fun q J hJ=>?_⟩
  · cases P with
    | cons s P=>rw [List.reverse_cons,List.map_append,List.map_append] at q; cases h:List.map opt (List.map T.root P.reverse) <;> rw [h] at q <;> cases q
    | nil =>
      have eF:F ++ [] = t.fore:=eF
      rw [List.append_nil] at eF
      refine R.retRev (l:=fa) rfl f3 (Nat.lt_trans hF (by decide)) fun p hp=>Fq.now (fl:=.ret (.ref p)) (k _ p ?_ ?_)
      · rw [upd_same,eF,← List.map_reverse,fore_rev]
      · exact I.K.trans fun y o hy e=>(upd_ne _ _ (fun q=>by rw [q,hp] at e; cases e)).trans e
  · cases P with
    | nil=>cases q
    | cons s P =>
      have w3:=I.w
      rw [List.reverse_cons,List.map_append,List.map_append] at w3 hPl
      rw [List.length_append] at hPl
      refine R.pop (l:=wa) (w:=opt s.root) rfl w3 (Nat.lt_of_le_of_lt (Nat.le_add_right _ _) hPl) ?_
      have f4:upd σ3 wa (.list ((P.reverse.map T.root).map opt)) fa = _:=(upd_ne _ _ hne).trans f3
      have w4:upd σ3 wa (.list ((P.reverse.map T.root).map opt)) wa = _:=upd_same ..
      have K4:Keep [] σ (upd σ3 wa (.list ((P.reverse.map T.root).map opt))):=Keep.upd' I.K hwa'
      generalize upd σ3 wa (.list ((P.reverse.map T.root).map opt)) = σ4 at *
      obtain ⟨⟨p,T3⟩,z3⟩:=I.tr s (.head _)
      have rest:∀ s' ∈ P,(∃ p,TreeAt σ s' p)∧s'.Z:=fun s' hs=>I.tr s' (.tail _ hs)
      have sz:=I.sz
      cases s with
      | nil=>exact R.iteF (ev_isNone (o:=none) rfl) rfl (hJ P _ σ4 (by show sumM P < 0 + 1 + sumM P; omega) ⟨⟨_,rfl⟩,⟨rest,K4,⟨F,f4,eF⟩,w4,⟨hfa,hwa',hne⟩,by have sz:0 + 1 + sumW P ≤ t.size + 1:=sz; omega⟩⟩)
      | nd i d l r =>
        have n4:=(T3.keep K4).1
        refine R.iteT (ev_isNone (o:=some i) rfl) rfl (R.call rfl (handDown_zero (n:=n) n4 z3.1 ?_))
        refine R.append (l:=fa) (w:=.ref i) rfl rfl f4 (Nat.lt_trans hF (by decide)) ?_
        have K5:Keep [] σ (upd σ4 fa (.list (F.map SV.ref ++ [SV.ref i]))):=Keep.upd' K4 hfa
        have f5:upd σ4 fa (.list (F.map SV.ref ++ [SV.ref i])) fa = _:=upd_same ..
        have w5:upd σ4 fa (.list (F.map SV.ref ++ [SV.ref i])) wa = _:=(upd_ne _ _ (Ne.symm hne)).trans w4
        generalize upd σ4 fa (.list (F.map SV.ref ++ [SV.ref i])) = σ5 at *
        refine R.append (l:=wa) (w:=opt l.root) rfl ((ev_attr (e:=.var 3) (f:=.left) rfl (T3.keep K5).1).trans rfl) w5 (Nat.lt_of_le_of_lt (Nat.le_add_right _ _) hPl) ?_
        have K6:Keep [] σ (upd σ5 wa (.list ((P.reverse.map T.root).map opt ++ [opt l.root]))):=Keep.upd' K5 hwa'
        have f6:upd σ5 wa (.list ((P.reverse.map T.root).map opt ++ [opt l.root])) fa = _:=(upd_ne _ _ hne).trans f5
        have w6:upd σ5 wa (.list ((P.reverse.map T.root).map opt ++ [opt l.root])) wa = _:=upd_same ..
        generalize upd σ5 wa (.list ((P.reverse.map T.root).map opt ++ [opt l.root])) = σ6 at *
        have sz:l.size + r.size + 1 + 1 + sumW P ≤ t.size + 1:=sz
        refine R.append (l:=wa) (w:=opt r.root) rfl ((ev_attr (e:=.var 3) (f:=.right) rfl (T3.keep K6).1).trans rfl) w6 (by
          have:=len_sumW P
          simp only [List.length_append,List.length_map,List.length_reverse,List.length_cons,List.length_nil]; omega) ?_
        refine hJ (r :: l :: P) _ _ ?_ ⟨⟨_,rfl⟩,⟨?_,Keep.upd' K6 hwa',⟨F ++ [i],(upd_ne _ _ hne).trans (f6.trans (by rw [List.map_append]; rfl)),?_⟩,?_,⟨hfa,hwa',hne⟩,?_⟩⟩
        · show 2 * r.size + 1 + (2 * l.size + 1 + sumM P) < 2 * (l.size + r.size + 1) + 1 + sumM P; omega
        · intro s' hs
          rcases List.mem_cons.mp hs with rfl | hs
          · exact ⟨⟨_,T3.2.2⟩,z3.2.2⟩
          · rcases List.mem_cons.mp hs with rfl | hs
            · exact ⟨⟨_,T3.2.1⟩,z3.2.1⟩
            · exact rest s' hs
        · rw [← eF]
          show F ++ [i] ++ (r.fore ++ (l.fore ++ foreL P)) = F ++ ((i :: (r.fore ++ l.fore)) ++ foreL P)
          simp only [List.append_assoc,List.cons_append,List.nil_append]
        · rw [upd_same,List.reverse_cons,List.reverse_cons]
          simp only [List.map_append,List.append_assoc,List.map_cons,List.map_nil]
        · show r.size + 1 + (l.size + 1 + sumW P) ≤ t.size + 1; omega
end Mine
namespace Mine
noncomputable def seBody:Ss:=.cons (.ite (.is true (.var 1) .none) (.cons (.ite (.is true (.attr (.var 1) .parent) (.var 0)) (.cons (.ret .bad) .nil) .nil) (.cons (.ite (.and (.attr (.var 0) .red) (.attr (.var 1) .red)) (.cons (.ret .bad) .nil) .nil) .nil)) .nil) .nil
theorem se_son {n:Nat} {σ:Hp} {t:T} {i:Nat} {nd:Nd} {K:Fl→Lc→Hp→Prop} (ht:TreeAt σ t (some i)) (hi:σ i = some (.node nd)) (hr:nd.red = true→t.isRed = false) (k:K .next [some (.ref i),some (opt t.root)] σ) :
    wpSs (wpFn fnD (n + 1)) seBody K [some (.ref i),some (opt t.root)] σ:=by
  cases t with
  | nil=>exact R.iteF (n:=n) (ev_isNone (o:=none) rfl) rfl k
  | nd j d l r =>
    refine R.iteT (n:=n) (ev_isNone (o:=some j) rfl) rfl (R.iteF (b:=false) ((ev_isRef (p:=i) (q:=i) ((ev_attr (e:=.var 1) rfl ht.1).trans rfl) rfl (by rw [hi]; rfl) (by rw [hi]; rfl)).trans (by simp)) rfl ?_)
    refine R.iteF (b:=false) (ev_and (t:=nd.red) ((ev_attr (e:=.var 0) (f:=.red) rfl hi).trans rfl) ?_) rfl k
    cases q:nd.red with
    | false=>rfl
    | true =>
      refine (ev_attr (e:=.var 1) (f:=.red) rfl ht.1).trans ?_
      show some (SV.bool d.red) = _
      rw [show d.red = false from hr q]
theorem shapeError_ok {n:Nat} {Q:SV→Hp→Prop} {σ:Hp} {i:Nat} {d:Dt} {l r:T} {p:Option Nat} (h:TreeAt σ (.nd i d l r) p) (nr:d.red = true→l.isRed = false∧r.isRed = false) (hl:d.limit = gEnd d l r)
    (ol:∀ j e a b,l = .nd j e a b→e.begin_ ≤ d.begin_) (or_:∀ j e a b,r = .nd j e a b→d.begin_ ≤ e.begin_) (k:Q .none σ):wpFn fnD (n + 3) .shapeError [.ref i] Q σ:=by
  refine ⟨rfl,?_⟩
  refine ev_ok (n:=n + 1) (e:=.attr (.var 0) .left) (v:=opt l.root) ((ev_attr (e:=.var 0) (f:=.left) rfl h.1).trans rfl) (ev_ok (n:=n + 1) (e:=.attr (.var 0) .right) (v:=opt r.root) ((ev_attr (e:=.var 0) (f:=.right) rfl h.1).trans rfl) ?_)
  refine se_son (n:=n + 1) h.2.1 h.1 (fun q=>(nr q).1) ⟨trivial,se_son (n:=n + 1) h.2.2 h.1 (fun q=>(nr q).2) ⟨trivial,?_⟩⟩
  show W (n + 1) _ _ [some (.ref i),some (opt r.root)] σ
  have eb:=(ev_attr (e:=.var 0) (f:=.begin_) (ρ:=[some (.ref i),some (opt r.root)]) rfl h.1).trans rfl
  have el:=(ev_attr (e:=.var 0) (f:=.left) (ρ:=[some (.ref i),some (opt r.root)]) rfl h.1).trans rfl
  have er:=(ev_attr (e:=.var 0) (f:=.right) (ρ:=[some (.ref i),some (opt r.root)]) rfl h.1).trans rfl
  refine R.iteF (b:=false) ?_ rfl (R.iteF (b:=false) ?_ rfl (R.ret (v:=.none) (ev_ite (t:=false) ((ev_cmp (op:=.ne) (i:=d.limit) (j:=gEnd d l r) ((ev_attr (e:=.var 0) (f:=.limit) rfl h.1).trans rfl) (ev_gE (e:=.var 0) rfl h.1 h.2.1 h.2.2)).trans (congrArg (fun b=>some (SV.bool b)) (decide_eq_false fun q=>q hl))) rfl) (Fq.now (fl:=.ret .none) k)))
  · cases l with
    | nil=>exact ev_and (t:=false) (ev_isNone (o:=none) el) rfl
    | nd j e a b=>exact ev_and (t:=true) (ev_isNone (o:=some j) el) ((ev_cmp (op:=.gt) (i:=e.begin_) (j:=d.begin_) ((ev_attr (e:=.attr (.var 0) .left) (f:=.begin_) el h.2.1.1).trans rfl) eb).trans (congrArg (fun b=>some (SV.bool b)) (decide_eq_false (Int.not_lt.mpr (ol j e a b rfl)))))
  · cases r with
    | nil=>exact ev_and (t:=false) (ev_isNone (o:=none) er) rfl
    | nd j e a b=>exact ev_and (t:=true) (ev_isNone (o:=some j) er) ((ev_cmp (op:=.lt) (i:=e.begin_) (j:=d.begin_) ((ev_attr (e:=.attr (.var 0) .right) (f:=.begin_) er h.2.2.1).trans rfl) eb).trans (congrArg (fun b=>some (SV.bool b)) (decide_eq_false (Int.not_lt.mpr (or_ j e a b rfl)))))
theorem dictAt_ref {σ:Hp} {l:Nat} {vs:List (Int × SV)} (h:σ l = some (.dict vs)):dictAt σ (.ref l) = some vs:=by
  unfold dictAt SV.asRef
  rw [Option.bind_some,h]
  rfl
theorem getAt_dict {σ:Hp} {l:Nat} {i:Int} {vs:List (Int × SV)} (h:σ l = some (.dict vs)):getAt σ (.ref l) (.int i) = dget vs i:=by
  unfold getAt SV.asRef SV.asInt
  rw [Option.bind_some,Option.bind_some,h]
  rfl
theorem setAt_dict {σ:Hp} {l:Nat} {i:Int} {w:SV} {vs:List (Int × SV)} (h:σ l = some (.dict vs)) (hz:vs.length < 1000):setAt σ (.ref l) (.int i) w = some (upd σ l (.dict (dput vs i w))):=by
  unfold setAt SV.asRef SV.asInt
  rw [Option.bind_some,Option.bind_some,h]
  exact if_pos hz
noncomputable def HtOf (kvs:List (Int × SV)):T→Nat→Prop
  | .nil,h=>h = 0
  | .nd _ d _ _,h=>dget kvs d.number = some (.int h)
theorem R.assignIte {n:Nat} {Q:Fl→Lc→Hp→Prop} {ρ:Lc} {σ:Hp} {r:Ss} {x:Nat} {c a b:E} {t:Bool} (h:ev σ ρ c = some (.bool t)) (k:wpE (wpFn fnD (n + 1)) (if t then a else b) ρ (fun v σ=>W n r Q (ρ.set x (some v)) σ) σ):W n (.cons (.assign x (.ite c a b)) r) Q ρ σ:=by
  refine ev_ok (n:=n) (e:=c) (Q:=fun v σ=>on v.asBool fun t=>if t then wpE (wpFn fnD (n + 1)) a ρ (fun v σ=>W n r Q (ρ.set x (some v)) σ) σ else wpE (wpFn fnD (n + 1)) b ρ (fun v σ=>W n r Q (ρ.set x (some v)) σ) σ) h ⟨t,rfl,?_⟩
  cases t <;> exact k
theorem R.side {n:Nat} {Q:Fl→Lc→Hp→Prop} {ρ:Lc} {σ:Hp} {r:Ss} {x:Nat} {f:Fld} {t:T} {p:Option Nat} {hd h:Nat} {kvs:List (Int × SV)} (hv:ev σ ρ (.attr (.var 0) f) = some (opt t.root)) (ht:TreeAt σ t p) (h1:rd ρ 1 = some (.ref hd)) (hh:σ hd = some (.dict kvs)) (H:HtOf kvs t h)
    (k:W n r Q (ρ.set x (some (.int h))) σ):W n (.cons (.assign x (.ite (.is true (.attr (.var 0) f) .none) (.get (.var 1) (.attr (.attr (.var 0) f) .number) (.int 0)) (.int 0))) r) Q ρ σ:=by
  cases t with
  | nil =>
    have H:h = 0:=H
    subst H
    exact R.assign (v:=.int 0) (ev_ite (t:=false) (ev_isNone (o:=none) hv) rfl) k
  | nd i d a b =>
    refine R.assignIte (ev_isNone (neg:=true) (o:=some i) hv) ?_
    refine ev_ok (n:=n) (e:=.var 1) (v:=.ref hd) (Q:=fun v σ=>(dictAt σ v).isSome = true∧wpE (wpFn fnD (n + 1)) (.attr (.attr (.var 0) f) .number) ρ (fun w σ=>wpE (wpFn fnD (n + 1)) (.int 0) ρ (fun x' σ=>on (dictAt σ v) fun kvs=>on w.asInt fun i=>W n r Q (ρ.set x (some ((dget kvs i).getD x'))) σ) σ) σ) h1 ?_
    refine ⟨by rw [dictAt_ref hh]; rfl,ev_ok (n:=n) (v:=.int d.number) ((ev_attr (f:=.number) hv ht.1).trans rfl) (ev_ok (n:=n) (v:=.int 0) rfl ⟨kvs,dictAt_ref hh,d.number,rfl,?_⟩)⟩
    show W n r Q (ρ.set x (some ((dget kvs d.number).getD (.int 0)))) σ
    rw [show dget kvs d.number = some (.int h) from H]
    exact k
theorem blackHeight_ok {n:Nat} {Q:SV→Hp→Prop} {σ:Hp} {i hd h:Nat} {d:Dt} {l r:T} {p:Option Nat} {kvs:List (Int × SV)} (ht:TreeAt σ (.nd i d l r) p) (hh:σ hd = some (.dict kvs)) (Hl:HtOf kvs l h) (Hr:HtOf kvs r h)
    (k:Q (.int ((h + (if d.red then 0 else 1):Nat):Int)) σ):wpFn fnD (n + 2) .blackHeight [.ref i,.ref hd] Q σ:=by
  refine ⟨rfl,R.side (n:=n) (t:=l) (f:=.left) ((ev_attr (e:=.var 0) (f:=.left) rfl ht.1).trans rfl) ht.2.1 rfl hh Hl (R.side (n:=n) (t:=r) (f:=.right) ((ev_attr (e:=.var 0) (f:=.right) rfl ht.1).trans rfl) ht.2.2 rfl hh Hr ?_)⟩
  refine R.iteF (b:=false) (ev_or (t:=false) ((ev_cmp (op:=.lt) (i:=(h:Int)) (j:=0) rfl rfl).trans (congrArg (fun b=>some (SV.bool b)) (decide_eq_false (p:=(h:Int) < 0) (by omega)))) ((ev_cmp (op:=.ne) (i:=(h:Int)) (j:=(h:Int)) rfl rfl).trans (congrArg (fun b=>some (SV.bool b)) (decide_eq_false (p:=(h:Int) ≠ h) fun q=>q rfl)))) rfl ?_
  refine R.ret (v:=.int ((h + (if d.red then 0 else 1):Nat):Int)) (ev_ite (t:=d.red) ((ev_attr (e:=.var 0) (f:=.red) rfl ht.1).trans rfl) ?_) (Fq.now (fl:=.ret _) k)
  cases d.red with
  | true=>rfl
  | false=>exact ev_add (a:=.var 2) (b:=.int 1) (i:=(h:Int)) (j:=1) rfl rfl
end Mine
namespace Mine
theorem dget_cons (p:Int × SV) (kvs:List (Int × SV)) (m:Int):dget (p :: kvs) m = if p.1 == m then some p.2 else dget kvs m:=by
  unfold dget
  rw [List.find?_cons]
  cases p.1 == m <;> rfl
theorem dget_nil (m:Int):dget [] m = none:=rfl
theorem dget_snoc:∀ (kvs:List (Int × SV)) (k m:Int) (v:SV),dget (kvs ++ [(k,v)]) m = match dget kvs m with | some w=>some w | none=>if k == m then some v else none
  | [],k,m,v=>by rw [List.nil_append,dget_cons]; rfl
  | p :: kvs,k,m,v=>by
    rw [List.cons_append,dget_cons,dget_cons,dget_snoc kvs]
    cases p.1 == m <;> rfl
theorem dget_map (k:Int) (v:SV):∀ (kvs:List (Int × SV)) (m:Int),dget (kvs.map fun p=>if p.1 == k then (k,v) else p) m = if k == m then (dget kvs m).map (fun _=>v) else dget kvs m
  | [],m=>by rw [List.map_nil,dget_nil]; cases k == m <;> rfl
  | p :: kvs,m=>by
    rw [List.map_cons,dget_cons,dget_cons,dget_map k v kvs m]
    by_cases h1:p.1 = k
    · subst h1
      simp only [beq_self_eq_true,if_true]
      cases p.1 == m <;> rfl
    · have h2:(p.1 == k) = false:=by simp [h1]
      rw [h2,if_neg Bool.false_ne_true]
      by_cases h3:p.1 = m
      · have h4:(k == m) = false:=by rw [← h3]; simp [Ne.symm h1]
        rw [h4]; rfl
      · have h4:(p.1 == m) = false:=by simp [h3]
        rw [h4]; rfl
theorem any_dget:∀ (kvs:List (Int × SV)) (k:Int),kvs.any (fun p=>p.1 == k) = (dget kvs k).isSome
  | [],_=>rfl
  | p :: kvs,k=>by
    rw [List.any_cons,any_dget kvs k,dget_cons]
    cases p.1 == k <;> rfl
theorem dget_dput (kvs:List (Int × SV)) (k m:Int) (v:SV):dget (dput kvs k v) m = if k == m then some v else dget kvs m:=by
  unfold dput
  rw [any_dget]
  cases h:dget kvs k with
  | some w =>
    rw [Option.isSome_some,if_pos rfl,dget_map]
    by_cases q:k = m
    · subst q; rw [beq_self_eq_true,if_pos rfl,if_pos rfl,h]; rfl
    · have:(k == m) = false:=by simp [q]
      rw [this,if_neg Bool.false_ne_true,if_neg Bool.false_ne_true]
  | none =>
    rw [Option.isSome_none,if_neg Bool.false_ne_true,dget_snoc]
    by_cases q:k = m
    · subst q; rw [h,beq_self_eq_true]
    · have:(k == m) = false:=by simp [q]
      rw [this]
      cases dget kvs m <;> rfl
theorem dput_len (kvs:List (Int × SV)) (k:Int) (v:SV):(dput kvs k v).length ≤ kvs.length + 1:=by
  unfold dput
  split
  · rw [List.length_map]; omega
  · rw [List.length_append]; exact Nat.le_refl _
noncomputable def ovBody:Ss:=(.cons (.assign 4 (.call .shapeError (.cons (.var 3) .nil))) (.cons (.ite (.is true (.var 4) .none) (.cons (.ret (.var 4)) .nil) .nil) (.cons (.setidx (.var 1) (.attr (.var 3) .number) (.call .blackHeight (.cons (.var 3) (.cons (.var 1) .nil)))) (.cons (.ite (.cmp .lt (.idx (.var 1) (.attr (.var 3) .number)) (.int 0)) (.cons (.ret .bad) .nil) .nil) .nil))))
noncomputable abbrev ovρ (tr hd nl:Nat) (x y:Option SV):Lc:=[some (.ref tr),some (.ref hd),some (.ref nl),x,y]
theorem R.setidxCall {n:Nat} {Q:Fl→Lc→Hp→Prop} {ρ:Lc} {σ:Hp} {r:Ss} {o i:E} {f:Fid} {es:Es} {vs:List SV} (h:evs σ ρ es = some vs)
    (k:wpFn fnD (n + 1) f vs (fun w σ=>wpE (wpFn fnD (n + 1)) o ρ (fun ov σ=>wpE (wpFn fnD (n + 1)) i ρ (fun iv σ=>on (setAt σ ov iv w) fun σ=>W n r Q ρ σ) σ) σ) σ):W n (.cons (.setidx o i (.call f es)) r) Q ρ σ:=evs_ok (n:=n) h k
noncomputable def nums (t:T):List Int:=(t.vals 0).map (·.number)
theorem nums_nd {i:Nat} {d:Dt} {l r:T} (h:d.offset = 0):nums (.nd i d l r) = nums l ++ d.number :: nums r:=by
  unfold nums
  rw [vals_off h,List.map_append,List.map_cons]; rfl
theorem HtOf.mono {kvs kvs':List (Int × SV)} {t:T} {h:Nat} (z:t.Z) (H:HtOf kvs t h) (k:∀ m ∈ nums t,dget kvs' m = dget kvs m):HtOf kvs' t h:=by
  cases t with
  | nil=>exact H
  | nd i d l r =>
    show dget kvs' d.number = _
    rw [k d.number (by rw [nums_nd z.1]; exact List.mem_append_right _ (.head _))]
    exact H
theorem ov_tree {n:Nat} {Q:Fl→Lc→Hp→Prop} {tr hd nl:Nat} {vs:List SV} (hne:hd ≠ nl):∀ {t:T} {p:Option Nat} {σ:Hp} {h:Nat} {rest:List SV} {x y:Option SV} {kvs:List (Int × SV)},TreeAt σ t p→t.Z→t.NR→t.Lim→t.BH h→Srt (t.vals 0)→(nums t).Nodup→σ nl = some (.list vs)→σ hd = some (.dict kvs)→kvs.length + t.size < 1000 →
    (∀ x' y' σ' kvs',σ' hd = some (.dict kvs')→(∀ z,z ≠ hd→σ' z = σ z)→kvs'.length ≤ kvs.length + t.size→(∀ m,m ∉ nums t→dget kvs' m = dget kvs m)→HtOf kvs' t h→forGo 3 (fun K ρ σ=>wpSs (wpFn fnD (n + 4)) ovBody K ρ σ) (fun σ'=>σ' nl = some (.list vs)) rest Q (ovρ tr hd nl x' y') σ') →
    forGo 3 (fun K ρ σ=>wpSs (wpFn fnD (n + 4)) ovBody K ρ σ) (fun σ'=>σ' nl = some (.list vs)) (t.post.map SV.ref ++ rest) Q (ovρ tr hd nl x y) σ
  | .nil,p,σ,h,rest,x,y,kvs,_,_,_,_,hB,_,_,_,hh,_,k=>k x y σ kvs hh (fun _ _=>rfl) (Nat.le_refl _) (fun _ _=>rfl) hB
  | .nd i d l r,p,σ,h,rest,x,y,kvs,ht,hz,hn,hl,hB,so,nn,hv,hh,len,k=>by
    have e0:(T.post (.nd i d l r)).map SV.ref ++ rest = l.post.map SV.ref ++ (r.post.map SV.ref ++ (.ref i :: rest)):=by
      show (l.post ++ r.post ++ [i]).map SV.ref ++ rest = _
      simp only [List.map_append,List.append_assoc,List.map_cons,List.map_nil,List.cons_append,List.nil_append]
    rw [e0]
    rw [nums_nd hz.1] at nn
    rw [vals_off hz.1] at so
    obtain ⟨m1,m2⟩:=pw_mid so
    have so':=List.pairwise_append.mp so
    obtain ⟨n1,n2,n3⟩:=List.nodup_append.mp nn
    rw [List.nodup_cons] at n2
    obtain ⟨kb,b1,b2,eh⟩:=hB
    have hd0:TreeAt σ (.nd i d l r) p→∀ {σ':Hp},(∀ z,z ≠ hd→σ' z = σ z)→TreeAt σ' (.nd i d l r) p:=fun h σ' f=>h.frame fun j hj=>f j fun q=>by
      obtain ⟨nx,e⟩:=h.isN j hj
      rw [q,hh] at e; cases e
    have len:kvs.length + (l.size + r.size + 1) < 1000:=len
    refine ov_tree hne (t:=l) ht.2.1 hz.2.1 hn.2.1 hl.2.1 b1 so'.1 n1 hv hh (by omega) fun x1 y1 σ1 kvs1 hh1 f1 len1 d1 H1=>?_
    have ht1:=hd0 ht f1
    refine ov_tree hne (t:=r) ht1.2.2 hz.2.2 hn.2.2 hl.2.2 b2 (List.pairwise_cons.mp so'.2.1).2 n2.2 ((f1 nl (Ne.symm hne)).trans hv) hh1 (by omega) fun x2 y2 σ2 kvs2 hh2 f2 len2 d2 H2=>?_
    have f2':∀ z,z ≠ hd→σ2 z = σ z:=fun z hz=>(f2 z hz).trans (f1 z hz)
    have ht2:=hd0 ht f2'
    have H1':HtOf kvs2 l kb:=H1.mono hz.2.1 fun m hm=>d2 m fun q=>n3 m hm m (.tail _ q) rfl
    refine R.callA (n:=n + 3) (ρ:=ovρ tr hd nl (some (.ref i)) y2) (vs:=[.ref i]) rfl (shapeError_ok (n:=n + 1) ht2 hn.1 hl.1 ?_ ?_ ?_)
    · rintro j e a b rfl
      have:=m1 (e.en j 0) (by rw [vals_off hz.2.1.1]; exact List.mem_append_right _ (.head _))
      have:e.begin_ + 0 ≤ d.begin_ + 0:=this
      omega
    · rintro j e a b rfl
      have:=m2 (e.en j 0) (by rw [vals_off hz.2.2.1]; exact List.mem_append_right _ (.head _))
      have:d.begin_ + 0 ≤ e.begin_ + 0:=this
      omega
    · refine R.iteF (n:=n + 3) (b:=false) (ev_isNone (o:=none) rfl) rfl ?_
      refine R.setidxCall (n:=n + 3) (vs:=[.ref i,.ref hd]) rfl (blackHeight_ok (n:=n + 2) ht2 hh2 H1' H2 ?_)
      have en:ev σ2 (ovρ tr hd nl (some (.ref i)) (some .none)) (.attr (.var 3) .number) = some (.int d.number):=(ev_attr (e:=.var 3) (f:=.number) rfl ht2.1).trans rfl
      refine ev_ok (n:=n + 3) (e:=.var 1) (v:=.ref hd) rfl (ev_ok (n:=n + 3) (e:=.attr (.var 3) .number) en ⟨_,setAt_dict hh2 (by omega),?_⟩)
      have hh3:upd σ2 hd (.dict (dput kvs2 d.number (.int ((kb + (if d.red then 0 else 1):Nat):Int)))) hd = _:=upd_same ..
      have f3:∀ z,z ≠ hd→upd σ2 hd (.dict (dput kvs2 d.number (.int ((kb + (if d.red then 0 else 1):Nat):Int)))) z = σ z:=fun z hz=>(upd_ne _ _ hz).trans (f2' z hz)
      have hk:=dput_len kvs2 d.number (.int ((kb + (if d.red then 0 else 1):Nat):Int))
      have hdg:∀ m,dget (dput kvs2 d.number (.int ((kb + (if d.red then 0 else 1):Nat):Int))) m = if d.number == m then some (.int ((kb + (if d.red then 0 else 1):Nat):Int)) else dget kvs2 m:=fun m=>dget_dput ..
      generalize upd σ2 hd (.dict (dput kvs2 d.number (.int ((kb + (if d.red then 0 else 1):Nat):Int)))) = σ3 at *
      generalize dput kvs2 d.number (.int ((kb + (if d.red then 0 else 1):Nat):Int)) = kvs3 at *
      rw [← eh] at hdg
      have ht3:=hd0 ht f3
      have en3:ev σ3 (ovρ tr hd nl (some (.ref i)) (some .none)) (.attr (.var 3) .number) = some (.int d.number):=(ev_attr (e:=.var 3) (f:=.number) rfl ht3.1).trans rfl
      have eix:ev σ3 (ovρ tr hd nl (some (.ref i)) (some .none)) (.idx (.var 1) (.attr (.var 3) .number)) = some (.int h):=by
        show (ev σ3 _ (.attr (.var 3) .number)).bind _ = _
        rw [en3,Option.bind_some,getAt_dict hh3,hdg,beq_self_eq_true,if_pos rfl]
      refine R.iteF (n:=n + 3) (b:=false) ((ev_cmp (op:=.lt) (i:=(h:Int)) (j:=0) eix rfl).trans (congrArg (fun b=>some (SV.bool b)) (decide_eq_false (p:=(h:Int) < 0) (by omega)))) rfl ?_
      refine ⟨(f3 nl (Ne.symm hne)).trans hv,k _ _ σ3 kvs3 hh3 f3 (by show _ ≤ kvs.length + (l.size + r.size + 1); omega) (fun m hm=>?_) ?_⟩
      · rw [nums_nd hz.1] at hm
        have h1:m ∉ nums l:=fun q=>hm (List.mem_append_left _ q)
        have h2:m ∉ nums r:=fun q=>hm (List.mem_append_right _ (.tail _ q))
        have h3:(d.number == m) = false:=by
          simp only [beq_eq_false_iff_ne]
          exact fun q=>hm (List.mem_append_right _ (q ▸ .head _))
        rw [hdg,h3,if_neg Bool.false_ne_true,d2 m h2,d1 m h1]
      · show dget kvs3 d.number = _
        rw [hdg,beq_self_eq_true,if_pos rfl]
theorem overlayTreeError_ok {n:Nat} {Q:SV→Hp→Prop} {σ:Hp} {tr:Nat} {V:List En} {t:T} (S:St σ tr V.length V .top t) (O:OkZ t) (so:Srt V) (nn:(V.map (·.number)).Nodup) (hV:V.length < 900)
    (k:∀ σ',Keep [] σ σ'→Q .none σ'):wpFn fnD (n + 5) .overlayTreeError [.ref tr] Q σ:=by
  refine ⟨rfl,fun hd hhd=>?_⟩
  have S1:=S.outL (l:=hd) (o:=.dict []) (by rw [hhd]; trivial)
  have K1:Keep [] σ (upd σ hd (.dict [])):=Keep.upd' Keep.refl hhd
  have h1:upd σ hd (.dict []) hd = _:=upd_same ..
  generalize upd σ hd (.dict []) = σ1 at *
  refine R.callA (n:=n + 3) (vs:=[.ref tr]) rfl (nodesFromBelow_ok (n:=n + 1) S1 O.z hV fun σ2 nl f2 K2=>?_)
  have S2:=S1.keep K2
  have h2:=K2 hd _ (fun q=>nomatch q) h1
  have hne:hd ≠ nl:=fun q=>by rw [q,f2] at h2; cases h2
  have plen:(t.post.map SV.ref).length = V.length:=by rw [List.length_map,← fore_rev,List.length_reverse,fore_len,size_le (o:=0),S.all]
  refine R.iteF (n:=n + 3) (b:=false) ((ev_cmp (op:=.ne) (i:=(V.length:Int)) (j:=(V.length:Int)) ((ev_len (a:=.var 2) rfl f2 (by omega)).trans (by rw [plen])) ((ev_attrT (e:=.var 0) (f:=.count) rfl S2.ctx).trans rfl)).trans (congrArg (fun b=>some (SV.bool b)) (decide_eq_false (p:=(V.length:Int) ≠ V.length) fun q=>q rfl))) rfl ?_
  obtain ⟨h,hB⟩:=O.bh
  refine R.forList (n:=n + 3) (l:=nl) rfl f2 ?_
  have:=ov_tree (n:=n) (tr:=tr) (vs:=t.post.map SV.ref) (rest:=[]) (x:=none) (y:=none) (Q:=Kn (wpFn fnD (n + 4)) (.cons (.ret (.ite (.and (.is true (.attr (.var 0) .root) .none) (.or (.attr (.attr (.var 0) .root) .red) (.is true (.attr (.attr (.var 0) .root) .parent) .none))) .bad .none)) .nil) (Fq Q)) hne S2.tree O.z O.nr O.lim hB (by rw [S.all]; exact so) (by unfold nums; rw [S.all]; exact nn) f2 h2
    (by show 0 + t.size < 1000; rw [size_le (o:=0),S.all]; omega) fun x y σ3 kvs3 h3 f3 _ _ _=>?_
  · rw [List.append_nil] at this
    exact this
  · have K3:Keep [] σ σ3:=fun z o hz e=>(f3 z fun q=>by rw [q,hhd] at e; cases e).trans ((K1.trans K2) z o hz e)
    have S3:=S2.outL (l:=hd) (o:=.dict kvs3) (by rw [h2]; trivial)
    have e3:σ3 = upd σ2 hd (.dict kvs3):=by
      funext z
      by_cases q:z = hd
      · rw [q,h3,upd_same]
      · rw [f3 z q,upd_ne _ _ q]
    rw [← e3] at S3
    have er:=(ev_attrT (e:=.var 0) (f:=.root) (ρ:=ovρ tr hd nl x y) rfl S3.ctx).trans rfl
    refine R.ret (n:=n + 3) (v:=.none) (ev_ite (t:=false) ?_ rfl) (Fq.now (fl:=.ret .none) (k σ3 K3))
    have T3:=S3.tree
    have rb:=O.rb
    cases t with
    | nil=>exact ev_and (t:=false) (ev_isNone (o:=none) er) rfl
    | nd i d l r =>
      refine ev_and (t:=true) (ev_isNone (o:=some i) er) (ev_or (t:=false) ?_ (ev_isNone (o:=none) ((ev_attr (e:=.attr (.var 0) .root) (f:=.parent) er T3.1).trans rfl)))
      refine (ev_attr (e:=.attr (.var 0) .root) (f:=.red) er T3.1).trans ?_
      show some (SV.bool d.red) = _
      rw [show d.red = false from rb]
end Mine
namespace Mine
noncomputable def KN (σ σ':Hp):Prop:=∀ z o,notNT (some o)→σ z = some o→σ' z = some o
theorem KN.trans {σ σ' σ'':Hp} (h:KN σ σ') (h':KN σ' σ''):KN σ σ'':=fun z o q e=>h' z o q (h z o q e)
theorem KN.of {S:List Nat} {σ σ':Hp} (K:Keep S σ σ') (h:∀ z ∈ S,¬ notNT (σ z)):KN σ σ':=fun z o q e=>K z o (fun hz=>h z hz (by rw [e]; exact q)) e
theorem St.kn {σ σ':Hp} {tr:Nat} {cnt:Int} {V:List En} {c:C} {t:T} (S:St σ tr cnt V c t) (K:KV tr V σ σ'):KN σ σ':=.of K fun _ hz h=>S.apartL h hz
theorem KN.keep {σ σ':Hp} (K:Keep [] σ σ'):KN σ σ':=.of K fun _ hz=>nomatch hz
noncomputable abbrev kvOf (L:List (En × Nat)):List (Int × SV):=L.map fun p=>(p.1.number,.ref p.2)
structure LR (σ:Hp) (dk nl od cc:Nat) (NS:List SV) (L:List (En × Nat)):Prop where
  dkh:∃ da,∃ is:List Int,σ dk = some (.list [.ref da,.int (cc:Int)])∧σ da = some (.list (is.map SV.int))∧is.length ≤ 63∧da ≠ dk∧da ≠ nl
  n:σ nl = some (.list NS)
  nd:nl ≠ dk
  o:σ od = some (.dict (kvOf L))
  rows:∀ p ∈ L,σ p.2 = some (.list [.int p.1.b,.int p.1.e,.bool p.1.front,.bool p.1.rear])∧p.2 ≠ nl∧p.2 ≠ dk
theorem LR.keep {σ σ':Hp} {dk nl od cc:Nat} {NS:List SV} {L:List (En × Nat)} (h:LR σ dk nl od cc NS L) (K:KN σ σ'):LR σ' dk nl od cc NS L:=by
  obtain ⟨da,is,a1,a2,a3⟩:=h.dkh
  exact ⟨⟨da,is,K _ _ trivial a1,K _ _ trivial a2,a3⟩,K _ _ trivial h.n,h.nd,K _ _ trivial h.o,fun p hp=>⟨K _ _ trivial (h.rows p hp).1,(h.rows p hp).2⟩⟩
structure Link (V:List En) (NS:List SV) (L:List (En × Nat)):Prop where
  perm:(L.map (·.1)).Perm V
  nn:(V.map (·.number)).Nodup
  ns:∀ y ∈ V,∃ m:Nat,y.number = m∧NS[m]? = some (.ref y.i)
  be:∀ y ∈ V,y.b ≤ y.e
  len:V.length ≤ NS.length
structure LW (σ:Hp) (dk tr nl od cc:Nat) (NS:List SV) (L:List (En × Nat)) (V:List En) (t:T):Prop where
  r:LR σ dk nl od cc NS L
  k:Link V NS L
  S:St σ tr V.length V .top t
  O:Ok t
  so:Srt V
  nz:NS.length ≤ 20
theorem getAt_list {σ:Hp} {l i:Nat} {vs:List SV} (h:σ l = some (.list vs)) (hi:i < 1000):getAt σ (.ref l) (.int i) = vs[i]?:=by
  unfold getAt SV.asRef SV.asInt
  rw [Option.bind_some,Option.bind_some,h,Option.bind_some]
  dsimp only
  rw [if_pos ⟨by omega,by omega⟩,Int.toNat_natCast]
theorem ev_idx {σ:Hp} {ρ:Lc} {a b:E} {l i:Nat} {vs:List SV} {v:SV} (ha:ev σ ρ a = some (.ref l)) (hb:ev σ ρ b = some (.int i)) (h:σ l = some (.list vs)) (hi:i < 1000) (hv:vs[i]? = some v):ev σ ρ (.idx a b) = some v:=by
  show (ev σ ρ a).bind _ = _
  rw [ha]
  show (ev σ ρ b).bind _ = _
  rw [hb]
  exact (getAt_list h hi).trans hv
theorem ev_idxD {σ:Hp} {ρ:Lc} {a b:E} {l:Nat} {i:Int} {vs:List (Int × SV)} {v:SV} (ha:ev σ ρ a = some (.ref l)) (hb:ev σ ρ b = some (.int i)) (h:σ l = some (.dict vs)) (hv:dget vs i = some v):ev σ ρ (.idx a b) = some v:=by
  show (ev σ ρ a).bind _ = _
  rw [ha]
  show (ev σ ρ b).bind _ = _
  rw [hb]
  exact (getAt_dict h).trans hv
theorem ev_mul {σ:Hp} {ρ:Lc} {a b:E} {i j:Int} (h1:ev σ ρ a = some (.int i)) (h2:ev σ ρ b = some (.int j)) (z1:i.natAbs < 2 ^ 40) (z2:j.natAbs < 2 ^ 40):ev σ ρ (.bin .mul a b) = some (.int (i * j)):=by
  show (ev σ ρ a).bind _ = _
  rw [h1]
  show (ev σ ρ b).bind _ = _
  rw [h2]
  show (if _ then some (i * j) else none).map SV.int = _
  rw [if_pos ⟨z1,z2⟩]
  rfl
theorem ev_fdiv {σ:Hp} {ρ:Lc} {a b:E} {i j:Int} (h1:ev σ ρ a = some (.int i)) (h2:ev σ ρ b = some (.int j)) (z0:j ≠ 0) (z1:i.natAbs < 2 ^ 40) (z2:j.natAbs < 2 ^ 40):ev σ ρ (.bin .fdiv a b) = some (.int (i.fdiv j)):=by
  show (ev σ ρ a).bind _ = _
  rw [h1]
  show (ev σ ρ b).bind _ = _
  rw [h2]
  show (if _ then some (i.fdiv j) else none).map SV.int = _
  rw [if_pos ⟨z0,z1,z2⟩]
  rfl
theorem ev_mod {σ:Hp} {ρ:Lc} {a b:E} {i j:Int} (h1:ev σ ρ a = some (.int i)) (h2:ev σ ρ b = some (.int j)) (z0:j ≠ 0):ev σ ρ (.bin .mod a b) = some (.int (i.fmod j)):=by
  show (ev σ ρ a).bind _ = _
  rw [h1]
  show (ev σ ρ b).bind _ = _
  rw [h2]
  show (if _ then some (i.fmod j) else none).map SV.int = _
  rw [if_pos z0]
  rfl
theorem dr0 {c:Nat} (h:c < 800):c < 900:=Nat.lt_trans h (by decide)
theorem dr1 {c:Nat} (h:c < 800):c + 1 < 900:=Nat.lt_trans (Nat.succ_lt_succ h) (by decide)
theorem dr2 {c:Nat} (h:c < 800):c + 1 + 1 < 900:=Nat.lt_trans (Nat.succ_lt_succ (Nat.succ_lt_succ h)) (by decide)
theorem dr3 {c:Nat} (h:c < 800):c + 1 + 1 + 1 < 900:=Nat.lt_trans (Nat.succ_lt_succ (Nat.succ_lt_succ (Nat.succ_lt_succ h))) (by decide)
theorem draw_ok {n:Nat} {Q:SV→Hp→Prop} {σ:Hp} {dk nl od cc:Nat} {NS:List SV} {L:List (En × Nat)} {many:Int} (h:LR σ dk nl od cc NS L) (hm:0 < many) (hc:cc < 900)
    (k:∀ x σ',0 ≤ x→x < many→LR σ' dk nl od (cc + 1) NS L→(∀ z,z ≠ dk→σ' z = σ z)→Q (.int x) σ'):wpFn fnD (n + 2) .lawDraw [.ref dk,.int many] Q σ:=by
  obtain ⟨da,is,a1,a2,a3,a4,a5⟩:=h.dkh
  have ne:∀ z,z ≠ dk→upd σ dk (.list [.ref da,.int ((cc + 1:Nat):Int)]) z = σ z:=fun z hz=>upd_ne _ _ hz
  have d1:upd σ dk (.list [.ref da,.int ((cc + 1:Nat):Int)]) dk = _:=upd_same ..
  have odk:od ≠ dk:=fun q=>by have:=h.o; rw [q,a1] at this; cases this
  have h':LR (upd σ dk (.list [.ref da,.int ((cc + 1:Nat):Int)])) dk nl od (cc + 1) NS L:=⟨⟨da,is,d1,(ne _ a4).trans a2,a3,a4,a5⟩,(ne _ h.nd).trans h.n,h.nd,(ne _ odk).trans h.o,fun p hp=>⟨(ne _ (h.rows p hp).2.2).trans (h.rows p hp).1,(h.rows p hp).2⟩⟩
  refine ⟨rfl,?_⟩
  let ρ:Lc:=[some (.ref dk),some (.int many)]
  have e0:ev σ ρ (.bin .add (.idx (.var 0) (.int 1)) (.int 1)) = some (.int ((cc + 1:Nat):Int)):=by
    refine (ev_add (i:=(cc:Int)) (j:=1) (ev_idx (l:=dk) (i:=1) rfl rfl a1 (by decide) rfl) rfl).trans ?_
    congr 2
  refine ev_ok (n:=n) (v:=.int ((cc + 1:Nat):Int)) e0 (ev_ok (n:=n) (e:=.var 0) (v:=.ref dk) rfl (ev_ok (n:=n) (e:=.int 1) (v:=.int 1) rfl ⟨upd σ dk (.list [.ref da,.int ((cc + 1:Nat):Int)]),?_,?_⟩))
  · unfold setAt SV.asRef SV.asInt
    rw [Option.bind_some,Option.bind_some,a1]
    rfl
  have K:=k
  have done:∀ v,0 ≤ v→v < many→Q (.int v) (upd σ dk (.list [.ref da,.int ((cc + 1:Nat):Int)])):=fun v p q=>k v _ p q h' ne
  obtain ⟨da',is',b1,b2,b3,b4,b5⟩:=h'.dkh
  rw [d1] at b1
  obtain ⟨rfl⟩:da = da':=by cases b1; rfl
  generalize upd σ dk (.list [.ref da,.int ((cc + 1:Nat):Int)]) = σ' at *
  have ec:ev σ' ρ (.idx (.var 0) (.int 1)) = some (.int ((cc + 1:Nat):Int)):=ev_idx (l:=dk) (i:=1) rfl rfl d1 (by decide) rfl
  have eda:ev σ' ρ (.idx (.var 0) (.int 0)) = some (.ref da):=ev_idx (l:=dk) (i:=0) rfl rfl d1 (by decide) rfl
  have el:ev σ' ρ (.len (.idx (.var 0) (.int 0))) = some (.int (is'.length:Int)):=by
    refine (ev_len eda b2 (by rw [List.length_map]; omega)).trans ?_
    rw [List.length_map]
  have ecmp:=ev_cmp (op:=.le) ec el
  by_cases q:((cc + 1:Nat):Int) ≤ (is'.length:Int)
  · obtain ⟨x,hx⟩:∃ x,(is'.map SV.int)[cc]? = some (SV.int x):=by
      have:cc < is'.length:=by omega
      exact ⟨is'[cc],by rw [List.getElem?_map,List.getElem?_eq_getElem this]; rfl⟩
    have es:ev σ' ρ (.bin .sub (.idx (.var 0) (.int 1)) (.int 1)) = some (.int (cc:Int)):=by
      refine (ev_sub (i:=((cc + 1:Nat):Int)) (j:=1) ec rfl).trans ?_
      congr 2
      omega
    refine R.iteT (n:=n) ecmp (decide_eq_true q) (R.ret (v:=.int (x.fmod many)) (ev_mod (i:=x) (j:=many) (ev_idx (i:=cc) eda es b2 (by omega) hx) rfl (by omega)) (Fq.now (fl:=.ret _) (done _ ?_ ?_)))
    · exact Int.fmod_nonneg_of_pos x hm
    · exact Int.fmod_lt_of_pos x hm
  · refine R.iteF (n:=n) ecmp (decide_eq_false q) ?_
    have z1:((cc + 1:Nat):Int).natAbs < 2 ^ 40:=by show _ < 1099511627776; omega
    have sq:((cc + 1:Nat):Int) * ((cc + 1:Nat):Int) ≤ 900 * 900:=Int.mul_le_mul (by omega) (by omega) (by omega) (by omega)
    have sq0:0 ≤ ((cc + 1:Nat):Int) * ((cc + 1:Nat):Int):=Int.mul_nonneg (by omega) (by omega)
    have ev1:=ev_mul (ev_mul ec ec z1 z1) (b:=.int 41) (j:=41) rfl (by show _ < 1099511627776; omega) (by decide)
    have ev2:=ev_mul (a:=.int 13) (i:=13) rfl ec (by decide) z1
    have ev3:=ev_mul (a:=.int 5) (i:=5) rfl el (by decide) (by show _ < 1099511627776; omega)
    have ev4:=ev_add (ev_add ev1 ev2) ev3
    have ev5:=ev_mod (b:=.var 1) (j:=many) (ev_fdiv ev4 (b:=.int 3) (j:=3) rfl (by decide) (by show _ < 1099511627776; omega) (by decide)) rfl (by omega)
    exact R.ret (n:=n) ev5 (Fq.now (fl:=.ret _) (done _ (Int.fmod_nonneg_of_pos _ hm) (Int.fmod_lt_of_pos _ hm)))
end Mine
namespace Mine
section
variable {Γ:Cal} {Q:Fl→Lc→Hp→Prop} {ρ:Lc} {σ:Hp} {r:Ss} {q:SV→Hp→Prop} {qs:List SV→Hp→Prop} {a b:E} {es:Es}
theorem P.asg {xs:List Nat} (h:wpEs Γ es ρ (fun vs σ=>vs.length = xs.length∧wpSs Γ r Q (setMany xs.reverse vs.reverse ρ) σ) σ):wpSs Γ (.cons (.asg xs es) r) Q ρ σ:=h
theorem P.assign {x:Nat} (h:wpE Γ a ρ (fun v σ=>wpSs Γ r Q (ρ.set x (some v)) σ) σ):wpSs Γ (.cons (.assign x a) r) Q ρ σ:=h
theorem P.cons (h:wpE Γ a ρ (fun v σ=>wpEs Γ es ρ (fun vs σ=>qs (v :: vs) σ) σ) σ):wpEs Γ (.cons a es) ρ qs σ:=h
theorem P.cmp {op:COp} (h:wpE Γ a ρ (fun v σ=>wpE Γ b ρ (fun w σ=>on v.asInt fun i=>on w.asInt fun j=>q (.bool (cmpI op i j)) σ) σ) σ):wpE Γ (.cmp op a b) ρ q σ:=h
theorem P.bin {op:AOp} (h:wpE Γ a ρ (fun v σ=>wpE Γ b ρ (fun w σ=>on v.asInt fun i=>on w.asInt fun j=>on (arith op i j) fun k=>q (.int k) σ) σ) σ):wpE Γ (.bin op a b) ρ q σ:=h
theorem P.idx (h:wpE Γ a ρ (fun v σ=>wpE Γ b ρ (fun w σ=>on (getAt σ v w) fun x=>q x σ) σ) σ):wpE Γ (.idx a b) ρ q σ:=h
theorem P.ite {c:E} {x y:Ss} (h:wpE Γ c ρ (fun v σ=>on v.asBool fun t=>wpSs Γ (app (if t then x else y) r) Q ρ σ) σ):wpSs Γ (.cons (.ite c x y) r) Q ρ σ:=by
  have e:(fun (v:SV) (σ:Hp)=>on v.asBool fun t=>wpSs Γ (app (if t then x else y) r) Q ρ σ) = fun v σ=>on v.asBool fun t=>if t then wpSs Γ x (Kn Γ r Q) ρ σ else wpSs Γ y (Kn Γ r Q) ρ σ:=by
    funext v σ
    congr 1
    funext t
    rw [wpSs_app]
    cases t <;> rfl
  rw [e] at h
  exact h
theorem P.or (h:wpE Γ a ρ (fun v σ=>on v.asBool fun t=>if t then q v σ else wpE Γ b ρ q σ) σ):wpE Γ (.or a b) ρ q σ:=h
theorem P.eqL {neg:Bool} (h:wpE Γ a ρ (fun v σ=>wpE Γ b ρ (fun w σ=>on (listAt σ v) fun vs=>on (listAt σ w) fun ws=>flat vs = true∧flat ws = true∧q (.bool (neg != decide (vs = ws))) σ) σ) σ):wpE Γ (.eqL neg a b) ρ q σ:=h
end
section
variable {n:Nat} {Q:Fl→Lc→Hp→Prop} {ρ:Lc} {σ:Hp} {r:Ss} {q:SV→Hp→Prop}
theorem R.appendNew {a:E} {es:Es} {l:Nat} {vs:List SV} {nn b e:Int} {f rr:Bool} (ha:ev σ ρ a = some (.ref l)) (hs:evs σ ρ es = some [.int nn,.int b,.int e,.bool f,.bool rr]) (hl:σ l = some (.list vs)) (hz:vs.length < 1000)
    (k:∀ x,σ x = none→W n r Q ρ (upd (upd σ x (.node { number:=nn,begin_:=b,end_:=e,front:=f,rear:=rr,limit:=e,offset:=0,red:=false,left:=none,right:=none,parent:=none })) l (.list (vs ++ [.ref x])))):W n (.cons (.expr (.append a (.newNode es))) r) Q ρ σ :=
  ev_ok (e:=a) ha ⟨by rw [listAt_ref hl]; rfl,evs_ok hs ⟨nn,b,e,f,rr,rfl,fun x hx=>⟨l,rfl,vs,listAt_ref ((upd_ne _ _ fun q=>by rw [q,hx] at hl; cases hl).trans hl),hz,k x hx⟩⟩⟩
theorem R.setidxList {o i:E} {es:Es} {d:Nat} {m:Int} {vs:List SV} {kvs:List (Int × SV)} (hs:evs σ ρ es = some vs) (hz:vs.length < 1000) (ho:∀ σ,ev σ ρ o = some (.ref d)) (hi:∀ σ,ev σ ρ i = some (.int m)) (hd:σ d = some (.dict kvs)) (hk:kvs.length < 1000)
    (k:∀ x,σ x = none→W n r Q ρ (upd (upd σ x (.list vs)) d (.dict (dput kvs m (.ref x))))):W n (.cons (.setidx o i (.list es)) r) Q ρ σ :=
  evs_ok (n:=n) hs ⟨hz,fun x hx=>ev_ok (n:=n) (e:=o) (ho _) (ev_ok (n:=n) (e:=i) (hi _) ⟨_,setAt_dict ((upd_ne _ _ fun q=>by rw [q,hx] at hd; cases hd).trans hd) hk,k x hx⟩)⟩
theorem E.draw {dk nl od cc i:Nat} {NS:List SV} {L:List (En × Nat)} {many:Nat} (h:LR σ dk nl od cc NS L) (hi:rd ρ i = some (.ref dk)) (hm:0 < many) (hc:cc < 900)
    (k:∀ x σ',0 ≤ x→x < (many:Int)→LR σ' dk nl od (cc + 1) NS L→(∀ z,z ≠ dk→σ' z = σ z)→q (.int x) σ'):wpE (wpFn fnD (n + 2)) (.call .lawDraw (.cons (.var i) (.cons (.int many) .nil))) ρ q σ:=by
  refine evs_ok (n:=n + 1) (v:=[.ref dk,.int many]) ?_ (draw_ok h (by omega) hc k)
  show (rd ρ i).bind _ = _
  rw [hi]
  rfl
end
theorem LR.dkl {σ:Hp} {dk nl od cc:Nat} {NS:List SV} {L:List (En × Nat)} (h:LR σ dk nl od cc NS L):notNT (σ dk):=by
  obtain ⟨da,is,a1,_⟩:=h.dkh
  rw [a1]; trivial
theorem LR.odl {σ:Hp} {dk nl od cc:Nat} {NS:List SV} {L:List (En × Nat)} (h:LR σ dk nl od cc NS L):od ≠ dk∧od ≠ nl∧∀ p ∈ L,p.2 ≠ od:=by
  obtain ⟨da,is,a1,_⟩:=h.dkh
  refine ⟨fun q=>?_,fun q=>?_,fun p hp q=>?_⟩
  · have:=h.o; rw [q,a1] at this; cases this
  · have:=h.o; rw [q,h.n] at this; cases this
  · have:=(h.rows p hp).1; rw [q,h.o] at this; cases this
theorem St.draw {σ σ':Hp} {dk nl od cc tr:Nat} {cnt:Int} {NS:List SV} {L:List (En × Nat)} {V:List En} {c:C} {t:T} (S:St σ tr cnt V c t) (h:LR σ dk nl od cc NS L) (f:∀ z,z ≠ dk→σ' z = σ z):St σ' tr cnt V c t :=
  S.out fun z hz=>f z fun q=>S.apartL h.dkl (q ▸ hz)
theorem LW.draw {σ σ':Hp} {dk tr nl od cc cc':Nat} {NS:List SV} {L:List (En × Nat)} {V:List En} {t:T} (h:LW σ dk tr nl od cc NS L V t) (h':LR σ' dk nl od cc' NS L) (f:∀ z,z ≠ dk→σ' z = σ z):LW σ' dk tr nl od cc' NS L V t :=
  ⟨h',h.k,h.S.draw h.r f,h.O,h.so,h.nz⟩
end Mine
namespace Mine
theorem evs2 {σ:Hp} {ρ:Lc} {e e2:E} {v w:SV} (h:ev σ ρ e = some v) (h2:ev σ ρ e2 = some w):evs σ ρ (.cons e (.cons e2 .nil)) = some [v,w]:=by
  show (ev σ ρ e).bind _ = _
  rw [h,Option.bind_some,evs1 h2]
  rfl
theorem dput_new {kvs:List (Int × SV)} {k:Int} {v:SV} (h:∀ p ∈ kvs,p.1 ≠ k):dput kvs k v = kvs ++ [(k,v)]:=by
  unfold dput
  rw [if_neg]
  intro q
  obtain ⟨p,hp,e⟩:=List.any_eq_true.mp q
  exact h p hp (by simpa using e)
theorem Link.num {V:List En} {NS:List SV} {L:List (En × Nat)} (h:Link V NS L):∀ p ∈ L,p.1 ∈ V:=fun _ hp=>h.perm.mem_iff.mp (List.mem_map_of_mem hp)
theorem Link.lt {V:List En} {NS:List SV} {L:List (En × Nat)} (h:Link V NS L):∀ y ∈ V,y.number < NS.length:=fun y hy=>by
  obtain ⟨m,e,h2⟩:=h.ns y hy
  have:=(List.getElem?_eq_some_iff.mp h2).1
  omega
theorem Link.llen {V:List En} {NS:List SV} {L:List (En × Nat)} (h:Link V NS L):L.length = V.length:=by
  rw [← h.perm.length_eq,List.length_map]
theorem laid_ok {n:Nat} {Q:SV→Hp→Prop} {σ:Hp} {dk tr nl od cc:Nat} {NS:List SV} {L:List (En × Nat)} {V:List En} {t:T} (h:LW σ dk tr nl od cc NS L V t) (hc:cc < 800) (hz:NS.length < 20)
    (k:∀ σ' NS' L' V' t',LW σ' dk tr nl od (cc + 4) NS' L' V' t'→NS'.length = NS.length + 1→Q .none σ'):wpFn fnD (n + 10) .lawLaid [.ref dk,.ref tr,.ref nl,.ref od] Q σ:=by
  refine ⟨rfl,P.asg (P.cons (E.draw (n:=n + 7) (many:=20) h.r rfl (by decide) (dr0 hc) fun b σ1 b0 b1 r1 f1=>P.cons (E.draw (n:=n + 7) (many:=5) r1 rfl (by decide) (dr1 hc) fun m σ2 m0 m1 r2 f2=>⟨rfl,?_⟩)))⟩
  refine P.asg (P.cons (P.cmp (E.draw (n:=n + 7) (many:=2) r2 rfl (by decide) (dr2 hc) fun x3 σ3 _ _ r3 f3=>⟨x3,rfl,1,rfl,?_⟩)))
  refine P.cons (P.cmp (E.draw (n:=n + 7) (many:=2) r3 rfl (by decide) (dr3 hc) fun x4 σ4 _ _ r4 f4=>⟨x4,rfl,1,rfl,rfl,?_⟩))
  have h4:=(((h.draw r1 f1).draw r2 f2).draw r3 f3).draw r4 f4
  have hL:=h.k.llen
  have hVz:V.length < 20:=Nat.lt_of_le_of_lt h.k.len hz
  show W (n + 8) _ (Fq Q) [some (.ref dk),some (.ref tr),some (.ref nl),some (.ref od),some (.int b),some (.int m),some (.bool (cmpI .eq x3 1)),some (.bool (cmpI .eq x4 1)),none] σ4
  generalize cmpI .eq x3 1 = fr
  generalize cmpI .eq x4 1 = rr
  refine R.assign (v:=.int NS.length) (ev_len (a:=.var 2) rfl r4.n (Nat.lt_trans hz (by decide))) ?_
  let ρ5:Lc:=[some (.ref dk),some (.ref tr),some (.ref nl),some (.ref od),some (.int b),some (.int m),some (.bool fr),some (.bool rr),some (.int (NS.length:Int))]
  show W (n + 8) _ (Fq Q) ρ5 σ4
  refine R.appendNew (l:=nl) (vs:=NS) (nn:=NS.length) (b:=b) (e:=b + m) (f:=fr) (rr:=rr) rfl rfl r4.n (Nat.lt_trans hz (by decide)) fun x hx=>?_
  have xn:=h4.S.apartL (l:=x) (by rw [hx]; trivial)
  have nln:=h4.S.apartL (l:=nl) (by rw [r4.n]; trivial)
  have xnl:x ≠ nl:=fun q=>by rw [q,r4.n] at hx; cases hx
  have x5:upd (upd σ4 x (.node { number:=NS.length,begin_:=b,end_:=b + m,front:=fr,rear:=rr,limit:=b + m,offset:=0,red:=false,left:=none,right:=none,parent:=none })) nl (.list (NS ++ [.ref x])) x = some (.node { number:=NS.length,begin_:=b,end_:=b + m,front:=fr,rear:=rr,limit:=b + m,offset:=0,red:=false,left:=none,right:=none,parent:=none }):=(upd_ne _ _ xnl).trans (upd_same ..)
  have n5:upd (upd σ4 x (.node { number:=NS.length,begin_:=b,end_:=b + m,front:=fr,rear:=rr,limit:=b + m,offset:=0,red:=false,left:=none,right:=none,parent:=none })) nl (.list (NS ++ [.ref x])) nl = _:=upd_same ..
  have f5:∀ z,z ≠ nl→z ≠ x→upd (upd σ4 x (.node { number:=NS.length,begin_:=b,end_:=b + m,front:=fr,rear:=rr,limit:=b + m,offset:=0,red:=false,left:=none,right:=none,parent:=none })) nl (.list (NS ++ [.ref x])) z = σ4 z:=fun z h1 h2=>(upd_ne _ _ h1).trans (upd_ne _ _ h2)
  generalize upd (upd σ4 x (.node { number:=NS.length,begin_:=b,end_:=b + m,front:=fr,rear:=rr,limit:=b + m,offset:=0,red:=false,left:=none,right:=none,parent:=none })) nl (.list (NS ++ [.ref x])) = σ5 at *
  have fresh:∀ z o,σ4 z = some o→z ≠ x:=fun z o e q=>by rw [q,hx] at e; cases e
  obtain ⟨odk,onl,orow⟩:=r4.odl
  have r5:LR σ5 dk nl od (cc + 1 + 1 + 1 + 1) (NS ++ [.ref x]) L:=by
    obtain ⟨da,is,a1,a2,a3,a4,a5⟩:=r4.dkh
    exact ⟨⟨da,is,(f5 _ (Ne.symm r4.nd) (fresh _ _ a1)).trans a1,(f5 _ a5 (fresh _ _ a2)).trans a2,a3,a4,a5⟩,n5,r4.nd,(f5 _ onl (fresh _ _ r4.o)).trans r4.o,fun p hp=>⟨(f5 _ (r4.rows p hp).2.1 (fresh _ _ (r4.rows p hp).1)).trans (r4.rows p hp).1,(r4.rows p hp).2⟩⟩
  have S5:=h4.S.out (σ':=σ5) fun z hz=>f5 z (fun q=>nln (q ▸ hz)) (fun q=>xn (q ▸ hz))
  refine R.setidxList (d:=od) (m:=NS.length) (vs:=[.int b,.int (b + m),.bool fr,.bool rr]) rfl (by show 4 < 1000; decide) (fun _=>rfl) (fun _=>rfl) r5.o (by rw [List.length_map,hL]; exact Nat.lt_trans hVz (by decide)) fun q hq=>?_
  have new:dput (kvOf L) (NS.length:Int) (.ref q) = kvOf (L ++ [((⟨x,NS.length,b,b + m,fr,rr⟩:En),q)]):=by
    unfold kvOf
    rw [dput_new,List.map_append]
    · rfl
    · intro p hp
      obtain ⟨p',hp',rfl⟩:=List.mem_map.mp hp
      have:=h.k.lt _ (h.k.num p' hp')
      show p'.1.number ≠ _
      omega
  rw [new]
  have fq:∀ z o,σ5 z = some o→z ≠ q:=fun z o e q'=>by rw [q',hq] at e; cases e
  have o6:upd (upd σ5 q (.list [.int b,.int (b + m),.bool fr,.bool rr])) od (.dict (kvOf (L ++ [((⟨x,NS.length,b,b + m,fr,rr⟩:En),q)]))) od = _:=upd_same ..
  have q6:upd (upd σ5 q (.list [.int b,.int (b + m),.bool fr,.bool rr])) od (.dict (kvOf (L ++ [((⟨x,NS.length,b,b + m,fr,rr⟩:En),q)]))) q = _:=(upd_ne _ _ (Ne.symm (fq _ _ r5.o))).trans (upd_same ..)
  have f6:∀ z,z ≠ q→z ≠ od→upd (upd σ5 q (.list [.int b,.int (b + m),.bool fr,.bool rr])) od (.dict (kvOf (L ++ [((⟨x,NS.length,b,b + m,fr,rr⟩:En),q)]))) z = σ5 z:=fun z h1 h2=>(upd_ne _ _ h2).trans (upd_ne _ _ h1)
  generalize upd (upd σ5 q (.list [.int b,.int (b + m),.bool fr,.bool rr])) od (.dict (kvOf (L ++ [((⟨x,NS.length,b,b + m,fr,rr⟩:En),q)]))) = σ6 at *
  obtain ⟨_,_,orow5⟩:=r5.odl
  have r6:LR σ6 dk nl od (cc + 1 + 1 + 1 + 1) (NS ++ [.ref x]) (L ++ [(⟨x,NS.length,b,b + m,fr,rr⟩,q)]):=by
    obtain ⟨da,is,a1,a2,a3,a4,a5⟩:=r5.dkh
    refine ⟨⟨da,is,(f6 _ (fq _ _ a1) (Ne.symm odk)).trans a1,(f6 _ (fq _ _ a2) (fun q=>by have:=r5.o; rw [← q,a2] at this; cases this)).trans a2,a3,a4,a5⟩,(f6 _ (fq _ _ r5.n) (Ne.symm onl)).trans r5.n,r5.nd,o6,fun p hp=>?_⟩
    rcases List.mem_append.mp hp with hp | hp
    · exact ⟨(f6 _ (fq _ _ (r5.rows p hp).1) (orow5 p hp)).trans (r5.rows p hp).1,(r5.rows p hp).2⟩
    · rw [List.mem_singleton.mp hp]
      exact ⟨q6,Ne.symm (fq _ _ r5.n),Ne.symm (fq _ _ a1)⟩
  have odn:=S5.apartL (l:=od) (by rw [r5.o]; trivial)
  have qn:=S5.apartL (l:=q) (by rw [hq]; trivial)
  have S6:=S5.out (σ':=σ6) fun z hz=>f6 z (fun q'=>qn (q' ▸ hz)) (fun q'=>odn (q' ▸ hz))
  have x6:σ6 x = _:=(f6 x (fq _ _ x5) fun q=>by rw [q,r5.o] at x5; cases x5).trans x5
  refine R.call (n:=n + 8) (vs:=[.ref tr,.ref x]) (evs2 rfl (ev_idx (l:=nl) (i:=NS.length) rfl rfl r6.n (Nat.lt_trans hz (by decide)) (by rw [List.getElem?_append_right (Nat.le_refl _),Nat.sub_self]; rfl))) (putNode_ok (n:=n + 2) S6 h.O h.so x6 xn fun σ7 t' V' S7 O7 so7 P7 K7=>?_)
  have y0:Nd.en x { number:=NS.length,begin_:=b,end_:=b + m,front:=fr,rear:=rr,limit:=b + m,offset:=0,red:=false,left:=none,right:=none,parent:=none } = ⟨x,NS.length,b,b + m,fr,rr⟩:=rfl
  rw [y0] at P7
  have kn:KN σ6 σ7:=.of K7 fun z hz=>by
    rcases List.mem_cons.mp hz with rfl | hz
    · rw [x6]; exact fun h=>h
    · exact fun h=>S6.apartL h hz
  have len7:V'.length = V.length + 1:=P7.length_eq
  refine Fq.now (fl:=.next) (k σ7 (NS ++ [.ref x]) _ V' t' ⟨r6.keep kn,⟨?_,?_,?_,?_,?_⟩,?_,O7,so7,?_⟩ ?_)
  · rw [List.map_append]
    refine List.Perm.trans ?_ P7.symm
    exact (h.k.perm.append_right _).trans List.perm_append_comm
  · refine (P7.map (·.number)).nodup_iff.mpr (List.nodup_cons.mpr ⟨fun q=>?_,h.k.nn⟩)
    obtain ⟨y,hy,e⟩:=List.mem_map.mp q
    have e:y.number = NS.length:=e
    have:=h.k.lt y hy
    omega
  · intro y hy
    rcases List.mem_cons.mp (P7.mem_iff.mp hy) with rfl | hy
    · exact ⟨NS.length,rfl,by rw [List.getElem?_append_right (Nat.le_refl _),Nat.sub_self]; rfl⟩
    · obtain ⟨m',e1,e2⟩:=h.k.ns y hy
      exact ⟨m',e1,by rw [List.getElem?_append_left (List.getElem?_eq_some_iff.mp e2).1]; exact e2⟩
  · intro y hy
    rcases List.mem_cons.mp (P7.mem_iff.mp hy) with rfl | hy
    · show b ≤ b + m; omega
    · exact h.k.be y hy
  · rw [len7,List.length_append]; have:=h.k.len; show _ ≤ _ + 1; omega
  · rw [len7]; exact S7
  · rw [List.length_append]; show _ + 1 ≤ 20; omega
  · rw [List.length_append]; rfl
end Mine
namespace Mine
theorem St.keepS {σ σ':Hp} {tr:Nat} {cnt:Int} {V:List En} {c:C} {t:T} {X:List Nat} (S:St σ tr cnt V c t) (K:Keep X σ σ') (h:∀ z ∈ X,z ∉ tr :: V.map (·.i)):St σ' tr cnt V c t:=by
  refine S.out fun z hz=>?_
  have hX:z ∉ X:=fun q=>h z q hz
  obtain ⟨h1,tt,h2⟩:=S.ctx.isN
  have:∃ o,σ z = some o:=by
    rw [S.ids] at hz
    rcases List.mem_cons.mp hz with q | q
    · exact ⟨_,q ▸ h2⟩
    · rcases List.mem_append.mp q with q | q
      · obtain ⟨n,e⟩:=h1 z (.inl q); exact ⟨_,e⟩
      · rcases List.mem_append.mp q with q | q
        · obtain ⟨n,e⟩:=S.tree.isN z q; exact ⟨_,e⟩
        · obtain ⟨n,e⟩:=h1 z (.inr q); exact ⟨_,e⟩
  obtain ⟨o,e⟩:=this
  rw [e]; exact K z o hX e
theorem LW.keep {σ σ':Hp} {dk tr nl od cc:Nat} {NS:List SV} {L:List (En × Nat)} {V:List En} {t:T} (h:LW σ dk tr nl od cc NS L V t) (K:Keep [] σ σ'):LW σ' dk tr nl od cc NS L V t :=
  ⟨h.r.keep (.keep K),h.k,h.S.keep K,h.O,h.so,h.nz⟩
theorem dget_kvOf:∀ {L:List (En × Nat)} {p:En × Nat},(L.map fun p=>p.1.number).Nodup→p ∈ L→dget (kvOf L) p.1.number = some (.ref p.2)
  | [],_,_,h=>nomatch h
  | x :: L,p,nd,h=>by
    have nd:(x.1.number :: L.map fun p=>p.1.number).Nodup:=nd
    rw [List.nodup_cons] at nd
    show dget ((x.1.number,SV.ref x.2) :: kvOf L) _ = _
    rw [dget_cons]
    rcases List.mem_cons.mp h with rfl | h
    · rw [if_pos (beq_self_eq_true _)]
    · have:(x.1.number == p.1.number) = false:=by
        simp only [beq_eq_false_iff_ne]
        exact fun q=>nd.1 (q ▸ List.mem_map_of_mem h)
      rw [this,if_neg Bool.false_ne_true]
      exact dget_kvOf nd.2 h
theorem Link.lnn {V:List En} {NS:List SV} {L:List (En × Nat)} (h:Link V NS L):(L.map fun p=>p.1.number).Nodup:=by
  have:=(h.perm.map (·.number)).nodup_iff.mpr h.nn
  rw [List.map_map] at this
  exact this
theorem dget_key {L:List (En × Nat)} {m:Int} (h:m ∈ (kvOf L).map (·.1)):∃ p ∈ L,p.1.number = m:=by
  obtain ⟨x,hx,e⟩:=List.mem_map.mp h
  obtain ⟨p,hp,rfl⟩:=List.mem_map.mp hx
  exact ⟨p,hp,e⟩
noncomputable def rep (m:Int) (y:En) (q:Nat) (L:List (En × Nat)):List (En × Nat):=L.map fun p=>if p.1.number == m then (y,q) else p
theorem dput_rep {L:List (En × Nat)} {m:Int} {y:En} {q:Nat} (h:∃ p ∈ L,p.1.number = m) (hy:y.number = m):dput (kvOf L) m (.ref q) = kvOf (rep m y q L):=by
  unfold dput
  rw [if_pos]
  · unfold kvOf rep
    rw [List.map_map,List.map_map]
    refine List.map_congr_left fun p _=>?_
    show (if p.1.number == m then (m,SV.ref q) else (p.1.number,SV.ref p.2)) = ((if p.1.number == m then (y,q) else p).1.number,SV.ref (if p.1.number == m then (y,q) else p).2)
    cases p.1.number == m with
    | true=>rw [if_pos rfl,if_pos rfl,hy]
    | false=>rfl
  · obtain ⟨p,hp,e⟩:=h
    exact List.any_eq_true.mpr ⟨_,List.mem_map_of_mem hp,by simp [e]⟩
noncomputable def rowOf (y:En):List SV:=[.int y.b,.int y.e,.bool y.front,.bool y.rear]
theorem LR.put {σ:Hp} {dk nl od cc:Nat} {NS:List SV} {L:List (En × Nat)} {m:Int} {y:En} {q:Nat} (h:LR σ dk nl od cc NS L) (hk:∃ p ∈ L,p.1.number = m) (hy:y.number = m) (hq:σ q = some (.list (rowOf y))) (h1:q ≠ nl) (h2:q ≠ dk) :
    LR (upd σ od (.dict (dput (kvOf L) m (.ref q)))) dk nl od cc NS (rep m y q L):=by
  rw [dput_rep hk hy]
  obtain ⟨odk,onl,orow⟩:=h.odl
  obtain ⟨da,is,a1,a2,a3,a4,a5⟩:=h.dkh
  refine ⟨⟨da,is,(upd_ne _ _ (Ne.symm odk)).trans a1,(upd_ne _ _ fun q=>by have:=h.o; rw [← q,a2] at this; cases this).trans a2,a3,a4,a5⟩,(upd_ne _ _ (Ne.symm onl)).trans h.n,h.nd,upd_same ..,fun p hp=>?_⟩
  obtain ⟨p',hp',e⟩:=List.mem_map.mp hp
  cases c:(p'.1.number == m) with
  | true =>
    rw [c,if_pos rfl] at e
    subst e
    exact ⟨(upd_ne _ _ fun q'=>by have:=h.o; rw [← q',hq] at this; cases this).trans hq,h1,h2⟩
  | false =>
    rw [c,if_neg Bool.false_ne_true] at e
    subst e
    exact ⟨(upd_ne _ _ (orow p' hp')).trans (h.rows p' hp').1,(h.rows p' hp').2⟩
theorem rep_fst {m:Int} {y:En} {q:Nat} {L:List (En × Nat)}:(rep m y q L).map (·.1) = (L.map (·.1)).map fun z=>if z.number == m then y else z:=by
  unfold rep
  rw [List.map_map,List.map_map]
  refine List.map_congr_left fun p _=>?_
  show (if p.1.number == m then (y,q) else p).1 = if p.1.number == m then y else p.1
  cases p.1.number == m <;> rfl
theorem intsOf_map:∀ is:List Int,intsOf (is.map SV.int) = some is
  | []=>rfl
  | i :: r=>by
    show (some i).bind (fun i=>(intsOf (r.map SV.int)).map (i :: ·)) = _
    rw [intsOf_map r]; rfl
theorem flat_ints (is:List Int):flat (is.map SV.int) = true:=by
  unfold flat
  rw [intsOf_map]; rfl
section
variable {n:Nat} {Q:Fl→Lc→Hp→Prop} {ρ:Lc} {σ:Hp} {r:Ss} {q:SV→Hp→Prop}
theorem P.sortedKeys {a:E} {d:Nat} {kvs:List (Int × SV)} (ha:ev σ ρ a = some (.ref d)) (hd:σ d = some (.dict kvs)) (hz:kvs.length < 64) (k:∀ (ws:List Int) l,ws.Perm (kvs.map (·.1))→ws.Pairwise (· ≤ ·)→σ l = none→q (.ref l) (upd σ l (.list (ws.map .int)))):wpE (wpFn fnD (n + 1)) (.sortedKeys a) ρ q σ :=
  ev_ok (e:=a) ha ⟨kvs,dictAt_ref hd,hz,fun ws h l hl=>k ws l h.1 h.2 hl⟩
theorem E.draw' {es:Es} {dk nl od cc:Nat} {NS:List SV} {L:List (En × Nat)} {many:Int} (h:LR σ dk nl od cc NS L) (he:evs σ ρ es = some [.ref dk,.int many]) (hm:0 < many) (hc:cc < 900)
    (k:∀ x σ',0 ≤ x→x < many→LR σ' dk nl od (cc + 1) NS L→(∀ z,z ≠ dk→σ' z = σ z)→q (.int x) σ'):wpE (wpFn fnD (n + 2)) (.call .lawDraw es) ρ q σ:=evs_ok (n:=n + 1) he (draw_ok h hm hc k)
theorem done_test {way:Int} {nm:Nat} {ws:List Int} {A B:Ss} (h4:rd ρ 4 = some (.int way)) (h5:rd ρ 5 = some (.ref nm)) (hn:σ nm = some (.list (ws.map .int))) (k1:∀ σ',Keep [] σ σ'→W n (app A r) Q ρ σ') (k2:¬ way < 2→ws ≠ []→∀ σ',Keep [] σ σ'→W n (app B r) Q ρ σ') :
    W n (.cons (.ite (.or (.cmp .lt (.var 4) (.int 2)) (.eqL false (.var 5) (.list .nil))) A B) r) Q ρ σ:=by
  refine P.ite (P.or (ev_ok (n:=n) (ev_cmp (op:=.lt) (a:=.var 4) (b:=.int 2) (i:=way) (j:=2) h4 rfl) ⟨_,rfl,?_⟩))
  by_cases c:way < 2
  · have:cmpI .lt way 2 = true:=decide_eq_true c
    rw [this]
    exact ⟨true,rfl,k1 σ Keep.refl⟩
  · have:cmpI .lt way 2 = false:=decide_eq_false c
    rw [this]
    dsimp only
    rw [if_neg Bool.false_ne_true]
    refine P.eqL (ev_ok (n:=n) (e:=.var 5) (v:=.ref nm) h5 ⟨by show 0 < 1000; decide,fun l hl=>?_⟩)
    have K:Keep [] σ (upd σ l (.list [])):=Keep.upd' Keep.refl hl
    refine ⟨ws.map .int,listAt_ref (K _ _ (fun q=>nomatch q) hn),[],listAt_ref (upd_same ..),flat_ints ws,rfl,_,rfl,?_⟩
    cases ws with
    | nil=>exact k1 _ K
    | cons w ws=>exact k2 c (fun q=>nomatch q) _ K
theorem R.asgAttr2 {o:E} {f₁ f₂:Fld} {a b:E} {i:Nat} {n1 n2 n3:Nd} {v w:SV} (ha:ev σ ρ a = some v) (hb:ev σ ρ b = some w) (ho:ev σ ρ o = some (.ref i)) (ho2:ev (upd σ i (.node n2)) ρ o = some (.ref i)) (hi:σ i = some (.node n1)) (s1:n1.set f₁ v = some n2) (s2:n2.set f₂ w = some n3)
    (k:W n r Q ρ (upd (upd σ i (.node n2)) i (.node n3))):W n (.cons (.asgAttr2 o f₁ o f₂ a b) r) Q ρ σ :=
  ev_ok (e:=a) ha (ev_ok (e:=b) hb (ev_ok (e:=o) ho ⟨upd σ i (.node n2),by unfold setF SV.asRef; rw [Option.bind_some,hi,Option.bind_some]; show ((n1.set f₁ v).map SO.node).map _ = _; rw [s1]; rfl,
    ev_ok (e:=o) ho2 ⟨_,by unfold setF SV.asRef; rw [Option.bind_some,upd_same,Option.bind_some]; show ((n2.set f₂ w).map SO.node).map _ = _; rw [s2]; rfl,k⟩⟩))
end
end Mine
namespace Mine
section
variable {n:Nat} {Q:Fl→Lc→Hp→Prop} {ρ:Lc} {σ:Hp} {r:Ss} {q:SV→Hp→Prop}
theorem ev_orB {a b:E} {x y:Bool} (h:ev σ ρ a = some (.bool x)) (k:ev σ ρ b = some (.bool y)):ev σ ρ (.or a b) = some (.bool (x || y)):=ev_or h (by cases x <;> first | exact k | rfl)
theorem ev_andB {a b:E} {x y:Bool} (h:ev σ ρ a = some (.bool x)) (k:ev σ ρ b = some (.bool y)):ev σ ρ (.and a b) = some (.bool (x && y)):=ev_and h (by cases x <;> first | exact k | rfl)
theorem ev_iteI {c a b:E} {t:Bool} {i j:Int} (h:ev σ ρ c = some (.bool t)) (h1:ev σ ρ a = some (.int i)) (h2:ev σ ρ b = some (.int j)):ev σ ρ (.ite c a b) = some (.int (if t then i else j)):=ev_ite h (by cases t <;> assumption)
theorem compP_ok {x l:Nat} {elt:E} {vs:List SV} {e:SV→SV} (hl:σ l = some (.list vs)) (hz:vs.length < 1000) (he:∀ v ∈ vs,ev σ (ρ.set x (some v)) elt = some (e v)) (k:∀ l',σ l' = none→q (.ref l') (upd σ l' (.list (vs.map e)))) :
    on (SV.ref l).asRef fun l'=>on (listAt σ (.ref l)) fun vs=>vs.length < 1000∧compGo l' vs (fun _ K σ=>K (.bool true) σ) (fun v K σ=>wpE (wpFn fnD (n + 1)) elt (ρ.set x (some v)) K σ) vs [] (fun ws σ=>newO (.list ws) q σ) σ:=by
  refine ⟨l,rfl,vs,listAt_ref hl,hz,compGo_pure (f:=fun _=>true) (e:=e) hl (fun _ _ _ h=>h) (fun v hv _ K hK=>ev_ok (n:=n) (he v hv) hK) vs [] (fun _ h=>h) (by show 0 + _ < 1000; omega) ?_⟩
  rw [show vs.filter (fun _=>true) = vs from List.filter_eq_self.mpr fun _ _=>rfl]
  exact k
theorem compIfP_ok {x l:Nat} {elt c:E} {vs:List SV} {f:SV→Bool} {e:SV→SV} (hl:σ l = some (.list vs)) (hz:vs.length < 1000) (hf:∀ v ∈ vs,ev σ (ρ.set x (some v)) c = some (.bool (f v))) (he:∀ v ∈ vs,ev σ (ρ.set x (some v)) elt = some (e v)) (k:∀ l',σ l' = none→q (.ref l') (upd σ l' (.list ((vs.filter f).map e)))) :
    on (SV.ref l).asRef fun l'=>on (listAt σ (.ref l)) fun vs=>vs.length < 1000∧compGo l' vs (fun v K σ=>wpE (wpFn fnD (n + 1)) c (ρ.set x (some v)) K σ) (fun v K σ=>wpE (wpFn fnD (n + 1)) elt (ρ.set x (some v)) K σ) vs [] (fun ws σ=>newO (.list ws) q σ) σ :=
  ⟨l,rfl,vs,listAt_ref hl,hz,compGo_pure (f:=f) (e:=e) hl (fun v hv K hK=>ev_ok (n:=n) (hf v hv) hK) (fun v hv _ K hK=>ev_ok (n:=n) (he v hv) hK) vs [] (fun _ h=>h) (by show 0 + _ < 1000; omega) k⟩
theorem R.unpack {e:E} {xs:List Nat} {l:Nat} {vs:List SV} (h:ev σ ρ e = some (.ref l)) (hl:σ l = some (.list vs)) (hz:vs.length = xs.length) (k:W n r Q (setMany xs vs ρ) σ):W n (.cons (.unpack xs e) r) Q ρ σ:=ev_ok h ⟨vs,listAt_ref hl,hz,k⟩
theorem R.retList {es:Es} {vs:List SV} (h:evs σ ρ es = some vs) (hz:vs.length < 1000) (k:∀ l,σ l = none→Q (.ret (.ref l)) ρ (upd σ l (.list vs))):W n (.cons (.ret (.list es)) r) Q ρ σ:=evs_ok (n:=n) h ⟨hz,k⟩
theorem P.upto {a:E} {m l:Nat} {vs:List SV} (h:ev σ ρ a = some (.ref l)) (hl:σ l = some (.list vs)) (hz:vs.length < 1000) (k:∀ l',σ l' = none→q (.ref l') (upd σ l' (.list (vs.take m)))):wpE (wpFn fnD (n + 1)) (.upto a m) ρ q σ:=ev_ok (e:=a) h ⟨vs,listAt_ref hl,by show _ < 1048576; omega,k⟩
theorem P.from_ {a:E} {m l:Nat} {vs:List SV} (h:ev σ ρ a = some (.ref l)) (hl:σ l = some (.list vs)) (hz:vs.length < 1000) (k:∀ l',σ l' = none→q (.ref l') (upd σ l' (.list (vs.drop m)))):wpE (wpFn fnD (n + 1)) (.from_ a m) ρ q σ:=ev_ok (e:=a) h ⟨vs,listAt_ref hl,by show _ < 1048576; omega,k⟩
theorem P.cat {a b:E} {Γ:Cal} (h:wpE Γ a ρ (fun v σ=>wpE Γ b ρ (fun w σ=>on (listAt σ v) fun vs=>on (listAt σ w) fun ws=>vs.length < 2 ^ 20∧ws.length < 2 ^ 20∧newO (.list (vs ++ ws)) q σ) σ) σ):wpE Γ (.cat a b) ρ q σ:=h
theorem P.ret {e:E} {Γ:Cal} (h:wpE Γ e ρ (fun v σ=>Q (.ret v) ρ σ) σ):wpSs Γ (.cons (.ret e) r) Q ρ σ:=h
theorem P.comp {Γ:Cal} {x:Nat} {elt it:E} (h:wpE Γ it ρ (fun v σ=>on v.asRef fun l=>on (listAt σ v) fun vs=>vs.length < 1000 ∧
      compGo l vs (fun _ K σ=>K (.bool true) σ) (fun v K σ=>wpE Γ elt (ρ.set x (some v)) K σ) vs [] (fun ws σ=>newO (.list ws) q σ) σ) σ):wpE Γ (.comp x elt it) ρ q σ:=h
theorem P.compIf {Γ:Cal} {x:Nat} {elt it c:E} (h:wpE Γ it ρ (fun v σ=>on v.asRef fun l=>on (listAt σ v) fun vs=>vs.length < 1000 ∧
      compGo l vs (fun v K σ=>wpE Γ c (ρ.set x (some v)) K σ) (fun v K σ=>wpE Γ elt (ρ.set x (some v)) K σ) vs [] (fun ws σ=>newO (.list ws) q σ) σ) σ):wpE Γ (.compIf x elt it c) ρ q σ:=h
theorem P.setidx {Γ:Cal} {o i v:E} (h:wpE Γ v ρ (fun w σ=>wpE Γ o ρ (fun ov σ=>wpE Γ i ρ (fun iv σ=>on (setAt σ ov iv w) fun σ=>wpSs Γ r Q ρ σ) σ) σ) σ):wpSs Γ (.cons (.setidx o i v) r) Q ρ σ:=h
end
theorem came_ok {n:Nat} {Q:SV→Hp→Prop} {σ:Hp} {a:Nat} {y:En} {at_ many:Int} {bm:Bool} (h:σ a = some (.list (rowOf y))) (k:∀ q σ',Keep [] σ σ'→σ q = none→σ' q = some (.list (rowOf (came at_ many bm y)))→Q (.ref q) σ'):wpFn fnD (n + 2) .lawCame [.ref a,.int at_,.int many,.bool bm] Q σ:=by
  refine ⟨rfl,R.unpack (n:=n) (l:=a) rfl h rfl ?_⟩
  let ρ:Lc:=[some (.ref a),some (.int at_),some (.int many),some (.bool bm),some (.int y.b),some (.int y.e),some (.bool y.front),some (.bool y.rear),none,none]
  show W n _ (Fq Q) ρ σ
  refine R.assign (v:=.bool (decide (y.b > at_) || mvB at_ bm y)) (ev_orB (ev_cmp (op:=.gt) rfl rfl) (ev_andB (ev_cmp (op:=.eq) rfl rfl) (ev_orB rfl (ev_andB rfl (ev_orB (ev_cmp (op:=.ne) rfl rfl) rfl))))) ?_
  refine R.assign (v:=.bool (growsB y at_ bm)) (ev_orB (ev_cmp (op:=.gt) rfl rfl) (ev_andB (ev_cmp (op:=.eq) rfl rfl) (ev_orB rfl rfl))) ?_
  refine R.retList (vs:=rowOf (came at_ many bm y)) ?_ (by show 4 < 1000; decide) fun l hl=>Fq.now (fl:=.ret (.ref l)) (k l _ (Keep.upd' Keep.refl hl) hl (upd_same ..))
  let ρ2:Lc:=[some (.ref a),some (.int at_),some (.int many),some (.bool bm),some (.int y.b),some (.int y.e),some (.bool y.front),some (.bool y.rear),some (.bool (decide (y.b > at_) || mvB at_ bm y)),some (.bool (growsB y at_ bm))]
  have e1:ev σ ρ2 (.ite (.var 8) (.bin .add (.var 4) (.var 2)) (.var 4)) = some (.int (came at_ many bm y).b):=ev_iteI (t:=decide (y.b > at_) || mvB at_ bm y) (i:=y.b + many) (j:=y.b) rfl (ev_add (i:=y.b) (j:=many) rfl rfl) rfl
  have e2:ev σ ρ2 (.ite (.var 9) (.bin .add (.var 5) (.var 2)) (.var 5)) = some (.int (came at_ many bm y).e):=ev_iteI (t:=growsB y at_ bm) (i:=y.e + many) (j:=y.e) rfl (ev_add (i:=y.e) (j:=many) rfl rfl) rfl
  show (ev σ ρ2 (.ite (.var 8) (.bin .add (.var 4) (.var 2)) (.var 4))).bind (fun v=>((ev σ ρ2 (.ite (.var 9) (.bin .add (.var 5) (.var 2)) (.var 5))).bind fun w=>_).map _) = _
  rw [e1,e2]
  rfl
theorem went_ok {n:Nat} {Q:SV→Hp→Prop} {σ:Hp} {a:Nat} {y:En} {at_ many:Int} (h:σ a = some (.list (rowOf y))) (k:∀ q σ',Keep [] σ σ'→σ q = none→σ' q = some (.list (rowOf (gWent at_ many y)))→Q (.ref q) σ'):wpFn fnD (n + 2) .lawWent [.ref a,.int at_,.int many] Q σ:=by
  refine ⟨rfl,P.assign (P.comp (P.upto (n:=n) (l:=a) rfl h (by show 4 < 1000; decide) fun l1 h1=>?_))⟩
  have K1:Keep [] σ (upd σ l1 (.list ((rowOf y).take 2))):=Keep.upd' Keep.refl h1
  have q1:upd σ l1 (.list ((rowOf y).take 2)) l1 = some (.list [.int y.b,.int y.e]):=upd_same ..
  generalize upd σ l1 (.list ((rowOf y).take 2)) = σ1 at *
  refine compP_ok (n:=n) (e:=fun v=>match v with | .int x=>.int (went at_ many x) | v=>v) q1 (by show 2 < 1000; decide) ?_ fun l2 h2=>?_
  · have key:∀ x:Int,ev σ1 [some (.ref a),some (.int at_),some (.int many),none,some (.int x)] (.ite (.cmp .le (.var 4) (.var 1)) (.var 4) (.max (.var 1) (.bin .sub (.var 4) (.var 2)))) = some (.int (went at_ many x)):=fun x=>by
      refine (ev_iteI (t:=decide (x ≤ at_)) (ev_cmp (op:=.le) rfl rfl) rfl (ev_max rfl (ev_sub rfl rfl))).trans ?_
      congr 2
      unfold went
      by_cases c:x ≤ at_
      · rw [decide_eq_true c,if_pos rfl,if_neg (by omega)]
      · rw [decide_eq_false c,if_neg Bool.false_ne_true,if_pos (show x > at_ by omega)]
    intro v hv
    rcases List.mem_cons.mp hv with rfl | hv
    · exact key y.b
    · rw [List.mem_singleton.mp hv]; exact key y.e
  have K2:Keep [] σ (upd σ1 l2 (.list ([SV.int y.b,SV.int y.e].map fun v=>match v with | .int x=>.int (went at_ many x) | v=>v))):=K1.trans (Keep.new h2)
  have q2:upd σ1 l2 (.list ([SV.int y.b,SV.int y.e].map fun v=>match v with | .int x=>.int (went at_ many x) | v=>v)) l2 = some (.list [.int (went at_ many y.b),.int (went at_ many y.e)]):=upd_same ..
  generalize upd σ1 l2 (.list ([SV.int y.b,SV.int y.e].map fun v=>match v with | .int x=>.int (went at_ many x) | v=>v)) = σ2 at *
  refine P.ret (P.cat (ev_ok (n:=n) (e:=.var 3) (v:=.ref l2) rfl (P.from_ (n:=n) (l:=a) rfl (K2 _ _ (fun q=>nomatch q) h) (by show 4 < 1000; decide) fun l3 h3=>?_)))
  have K3:Keep [] σ2 (upd σ2 l3 (.list ((rowOf y).drop 2))):=Keep.new h3
  have q3:upd σ2 l3 (.list ((rowOf y).drop 2)) l3 = some (.list [.bool y.front,.bool y.rear]):=upd_same ..
  generalize upd σ2 l3 (.list ((rowOf y).drop 2)) = σ3 at *
  refine ⟨_,listAt_ref (K3 _ _ (fun q=>nomatch q) q2),_,listAt_ref q3,Nat.lt_of_lt_of_le (show 2 < 3 by decide) (by decide),Nat.lt_of_lt_of_le (show 2 < 3 by decide) (by decide),fun l4 h4=>Fq.now (fl:=.ret (.ref l4)) (k l4 _ ((K2.trans K3).trans (Keep.new h4)) ?_ (upd_same ..))⟩
  cases c:σ l4 with
  | none=>rfl
  | some o=>rw [(K2.trans K3) l4 o (fun q=>nomatch q) c] at h4; cases h4
end Mine
namespace Mine
theorem nodup_inj {α β:Type} {f:α→β}:∀ {l:List α} {a b:α},(l.map f).Nodup→a ∈ l→b ∈ l→f a = f b→a = b
  | [],_,_,_,h,_,_=>nomatch h
  | x :: l,a,b,nd,ha,hb,e=>by
    rw [List.map_cons,List.nodup_cons] at nd
    rcases List.mem_cons.mp ha with h1 | h1
    · rcases List.mem_cons.mp hb with h2 | h2
      · exact h1.trans h2.symm
      · exact absurd (h1 ▸ e ▸ List.mem_map_of_mem h2) nd.1
    · rcases List.mem_cons.mp hb with h2 | h2
      · exact absurd (h2 ▸ e ▸ List.mem_map_of_mem h1) nd.1
      · exact nodup_inj nd.2 h1 h2 e
inductive OwnI (σ:Hp) (dk nl od cc:Nat) (NS:List SV) (L:List (En × Nat)) (g:En→En) (ρ0:Lc) (ws:List Int) (rest:List SV) (ρ:Lc) (σ':Hp):Prop
  | mk (hρ:(∃ o,ρ = ρ0.set 6 o) ∨ ρ = ρ0) (D Rm:List Int) (L':List (En × Nat)) (eW:ws = D ++ Rm) (eR:rest = Rm.map SV.int) (h:LR σ' dk nl od cc NS L') (e:L'.map (·.1) = L.map (fun p=>if p.1.number ∈ Rm then p.1 else g p.1)) (K:Keep [od] σ σ')
theorem own_loop {n:Nat} {Q:SV→Hp→Prop} {σ:Hp} {dk nl od cc nm:Nat} {NS:List SV} {L:List (En × Nat)} {f:Fid} {es:Es} {args:List SV} {g:En→En} {ρ0:Lc} {ws:List Int} (h:LR σ dk nl od cc NS L) (hz:L.length < 900) (nn:(L.map fun p=>p.1.number).Nodup) (hp:ws.Perm (L.map fun p=>p.1.number)) (hg:∀ y,(g y).number = y.number)
    (h5:ev σ ρ0 (.var 5) = some (.ref nm)) (hnm:σ nm = some (.list (ws.map .int))) (h3:∀ v,rd (ρ0.set 6 (some v)) 3 = some (.ref od)) (h6:∀ v,rd (ρ0.set 6 (some v)) 6 = some v)
    (hes:∀ σ m a,ev σ (ρ0.set 6 (some (.int m))) (.idx (.var 3) (.var 6)) = some (.ref a)→evs σ (ρ0.set 6 (some (.int m))) es = some (.ref a :: args))
    (hcall:∀ (Q:SV→Hp→Prop) σ a y,σ a = some (.list (rowOf y))→(∀ q σ',Keep [] σ σ'→σ q = none→σ' q = some (.list (rowOf (g y)))→Q (.ref q) σ')→wpFn fnD (n + 1) f (.ref a :: args) Q σ)
    (k:∀ σ' L',LR σ' dk nl od cc NS L'→L'.map (·.1) = (L.map (·.1)).map g→Keep [od] σ σ'→Q .none σ') :
    W n (.cons (.forList 6 (.var 5) (.cons (.setidx (.var 3) (.var 6) (.call f es)) .nil)) .nil) (Fq Q) ρ0 σ:=by
  have wsn:ws.Nodup:=hp.nodup_iff.mpr nn
  refine R.forList (l:=nm) h5 hnm (forGo_rule (OwnI σ dk nl od cc NS L g ρ0 ws) ?_ ?_ _ _ _
    ⟨.inr rfl,[],ws,L,rfl,rfl,h,List.map_congr_left fun p hq=>by rw [if_pos (hp.mem_iff.mpr (List.mem_map_of_mem hq))],Keep.refl⟩)
  · rintro v rest ρ σ1 J ⟨hρ,D,Rm,L1,eW,eR,h1,e1,K1⟩ hJ
    cases Rm with
    | nil=>cases eR
    | cons m Rm =>
      have eR:v :: rest = SV.int m :: Rm.map SV.int:=eR
      cases eR
      have hρ':ρ.set 6 (some (SV.int m)) = ρ0.set 6 (some (SV.int m)):=by
        rcases hρ with ⟨o,rfl⟩ | rfl
        · rw [List.set_set]
        · rfl
      rw [hρ']
      obtain ⟨p,hpL,epm⟩:=List.mem_map.mp (hp.mem_iff.mp (eW ▸ List.mem_append_right D (.head _):m ∈ ws))
      have epm:p.1.number = m:=epm
      have num1:(L1.map fun p=>p.1.number) = L.map fun p=>p.1.number:=by
        have:=congrArg (List.map (·.number)) e1
        rw [List.map_map,List.map_map] at this
        refine Eq.trans (this:_) (List.map_congr_left fun p _=>?_)
        show (if p.1.number ∈ m :: Rm then p.1 else g p.1).number = p.1.number
        split
        · rfl
        · exact hg _
      obtain ⟨p1,hp1,ep1⟩:∃ p1 ∈ L1,p1.1 = p.1:=by
        have:p.1 ∈ L1.map (·.1):=by
          rw [e1]
          refine List.mem_map.mpr ⟨p,hpL,?_⟩
          rw [if_pos (by rw [epm]; exact .head _)]
        obtain ⟨p1,a,b⟩:=List.mem_map.mp this
        exact ⟨p1,a,b⟩
      have eg:dget (kvOf L1) m = some (.ref p1.2):=by
        have:=dget_kvOf (by rw [num1]; exact nn) hp1
        rw [ep1,epm] at this
        exact this
      have row:=(h1.rows p1 hp1).1
      rw [ep1] at row
      refine P.setidx (evs_ok (n:=n) (hes σ1 m p1.2 (ev_idxD (l:=od) (h3 _) (h6 _) h1.o eg)) (hcall _ σ1 p1.2 p.1 row fun q σ2 K2 hq r2=>?_))
      have h2:=h1.keep (KN.keep K2)
      have fr:∀ z o,σ1 z = some o→q ≠ z:=fun z o e q'=>by rw [← q',hq] at e; cases e
      refine ev_ok (n:=n) (e:=.var 3) (v:=.ref od) (h3 _) (ev_ok (n:=n) (e:=.var 6) (v:=.int m) (h6 _) ⟨_,setAt_dict h2.o ?_,?_⟩)
      · have:L1.length = L.length:=by rw [← List.length_map (f:=fun p:En × Nat=>p.1.number),num1,List.length_map]
        rw [List.length_map,this]; omega
      · have h3':=h2.put (y:=g p.1) (m:=m) ⟨p1,hp1,by rw [ep1]; exact epm⟩ ((hg _).trans epm) r2 (fr _ _ h1.n) (by
          obtain ⟨da,is,a1,_⟩:=h1.dkh
          exact fr _ _ a1)
        have Kod:Keep [od] σ (upd σ2 od (.dict (dput (kvOf L1) m (.ref q)))):=(K1.trans (K2.mono fun z hz=>nomatch hz)).trans (Keep.put (.head _))
        refine ⟨Kod nm _ (fun q=>?_) hnm,hJ _ _ ⟨.inl ⟨_,rfl⟩,D ++ [m],Rm,rep m (g p.1) q L1,by rw [eW,List.append_assoc]; rfl,rfl,h3',?_,Kod⟩⟩
        · rw [List.mem_singleton] at q
          rw [q,h.o] at hnm; cases hnm
        · rw [rep_fst,e1,List.map_map]
          have mR:m ∉ Rm:=by
            rw [eW] at wsn
            exact (List.nodup_cons.mp (List.nodup_append.mp wsn).2.1).1
          refine List.map_congr_left fun p2 hp2=>?_
          show (if (if p2.1.number ∈ m :: Rm then p2.1 else g p2.1).number == m then g p.1 else (if p2.1.number ∈ m :: Rm then p2.1 else g p2.1)) = if p2.1.number ∈ Rm then p2.1 else g p2.1
          have en:(if p2.1.number ∈ m :: Rm then p2.1 else g p2.1).number = p2.1.number:=by
            split
            · rfl
            · exact hg _
          rw [en]
          by_cases c:p2.1.number = m
          · have:p2 = p:=nodup_inj (f:=fun p:En × Nat=>p.1.number) nn hp2 hpL (c.trans epm.symm)
            subst this
            rw [c,beq_self_eq_true,if_pos rfl,if_neg mR]
          · have:(p2.1.number == m) = false:=by simp [c]
            rw [this,if_neg Bool.false_ne_true]
            have:(p2.1.number ∈ m :: Rm) ↔ p2.1.number ∈ Rm:=⟨fun q=>(List.mem_cons.mp q).resolve_left c,fun q=>.tail _ q⟩
            simp only [this]
  · rintro ρ σ1 ⟨_,D,Rm,L1,eW,eR,h1,e1,K1⟩
    cases Rm with
    | cons _ _=>cases eR
    | nil =>
      refine Fq.now (fl:=.next) (k σ1 L1 h1 ?_ K1)
      rw [e1,List.map_map]
      exact List.map_congr_left fun p _=>if_neg (fun q=>nomatch q)
theorem Link.map {V V':List En} {NS:List SV} {L L':List (En × Nat)} {g:En→En} (h:Link V NS L) (hV:V'.Perm (V.map g)) (hL:L'.map (·.1) = (L.map (·.1)).map g) (hn:∀ y,(g y).number = y.number) (hi:∀ y ∈ V,(g y).i = y.i) (hb:∀ y,y.b ≤ y.e→(g y).b ≤ (g y).e):Link V' NS L':=by
  refine ⟨?_,?_,?_,?_,?_⟩
  · rw [hL]; exact (h.perm.map g).trans hV.symm
  · refine (hV.map (·.number)).nodup_iff.mpr ?_
    rw [List.map_map,show ((fun y:En=>y.number) ∘ g) = fun y=>y.number from funext hn]
    exact h.nn
  · intro y hy
    obtain ⟨z,hz,rfl⟩:=List.mem_map.mp (hV.mem_iff.mp hy)
    obtain ⟨m,e1,e2⟩:=h.ns z hz
    exact ⟨m,(hn z).trans e1,by rw [hi z hz]; exact e2⟩
  · intro y hy
    obtain ⟨z,hz,rfl⟩:=List.mem_map.mp (hV.mem_iff.mp hy)
    exact hb z (h.be z hz)
  · rw [hV.length_eq,List.length_map]; exact h.len
theorem mv_grows {at_:Int} {bm:Bool} {y:En} (h:mvB at_ bm y = true) (hbe:y.b ≤ y.e):growsB y at_ bm = true:=by
  have hb:=mvB_b h
  unfold growsB
  by_cases c:y.e > at_
  · rw [decide_eq_true c]; rfl
  · have c4:y.e = at_:=Int.le_antisymm (Int.not_lt.mp c) (hb ▸ hbe)
    unfold mvB at h
    rw [decide_eq_true hb,decide_eq_false (fun q:y.b ≠ y.e=>q (hb.trans c4.symm))] at h
    rw [decide_eq_false c,decide_eq_true c4]
    revert h
    generalize y.front = f
    generalize y.rear = r
    cases bm <;> cases r <;> cases f <;> first | exact id | exact fun q=>Bool.noConfusion q | exact fun _=>rfl
theorem came_be {at_ many:Int} {bm:Bool} {y:En} (hm:0 < many) (h:y.b ≤ y.e):(came at_ many bm y).b ≤ (came at_ many bm y).e:=by
  show (if (decide (y.b > at_) || mvB at_ bm y) = true then y.b + many else y.b) ≤ if growsB y at_ bm = true then y.e + many else y.e
  have key:(decide (y.b > at_) || mvB at_ bm y) = true→growsB y at_ bm = true:=fun q=>by
    rw [Bool.or_eq_true] at q
    rcases q with q | q
    · unfold growsB
      rw [decide_eq_true (show y.e > at_ from Int.lt_of_lt_of_le (of_decide_eq_true q) h)]; rfl
    · exact mv_grows q h
  cases q:(decide (y.b > at_) || mvB at_ bm y) with
  | true=>rw [if_pos rfl,if_pos (key q)]; exact Int.add_le_add_right h many
  | false =>
    rw [if_neg Bool.false_ne_true]
    cases growsB y at_ bm with
    | true=>exact Int.le_trans h (Int.le_add_of_nonneg_right (Int.le_of_lt hm))
    | false=>exact h
theorem went_be {at_ many:Int} {y:En} (h:y.b ≤ y.e):(gWent at_ many y).b ≤ (gWent at_ many y).e:=by
  show went at_ many y.b ≤ went at_ many y.e
  unfold went
  split <;> split <;> (try split) <;> (try split) <;> omega
end Mine
namespace Mine
noncomputable abbrev dnρ (dk tr nl od:Nat) (way:Int) (nm:Nat) (a b c d e:Option SV):Lc:=[some (.ref dk),some (.ref tr),some (.ref nl),some (.ref od),some (.int way),some (.ref nm),a,b,c,d,e]
theorem LR.nmdk {σ:Hp} {dk nl od cc nm:Nat} {NS:List SV} {L:List (En × Nat)} {ws:List Int} (h:LR σ dk nl od cc NS L) (hn:σ nm = some (.list (ws.map .int))):nm ≠ dk:=fun q=>by
  obtain ⟨da,is,a1,_⟩:=h.dkh
  rw [q,a1] at hn
  cases ws <;> cases hn
section
variable {n:Nat} {Q:SV→Hp→Prop} {K:Fl→Lc→Hp→Prop} {ρ:Lc} {σ:Hp} {r:Ss} {q:SV→Hp→Prop} {dk tr nl od cc nm:Nat} {NS:List SV} {L:List (En × Nat)} {V:List En} {t:T} {ws:List Int} {way:Int} {p:En × Nat}
theorem pick (h:LR σ dk nl od cc NS L) (hn:σ nm = some (.list (ws.map .int))) (hp:ws.Perm (L.map fun p=>p.1.number)) (hw:ws ≠ []) (hz:L.length < 900) (hc:cc < 900) (h0:rd ρ 0 = some (.ref dk)) (h5:rd ρ 5 = some (.ref nm))
    (k:∀ p σ',p ∈ L→LR σ' dk nl od (cc + 1) NS L→(∀ z,z ≠ dk→σ' z = σ z)→q (.int p.1.number) σ'):wpE (wpFn fnD (n + 2)) (.idx (.var 5) (.call .lawDraw (.cons (.var 0) (.cons (.len (.var 5)) .nil)))) ρ q σ:=by
  have wl:ws.length < 900:=by rw [hp.length_eq,List.length_map]; exact hz
  have w0:0 < ws.length:=List.length_pos_iff.mpr hw
  have el:ev σ ρ (.len (.var 5)) = some (.int (ws.length:Int)):=(ev_len (a:=.var 5) h5 hn (by rw [List.length_map]; omega)).trans (by rw [List.length_map])
  refine P.idx (ev_ok (n:=n + 1) (e:=.var 5) (v:=.ref nm) h5 (E.draw' (n:=n) h (evs2 (e:=.var 0) h0 el) (by omega) hc fun x σ1 x0 x1 r1 f1=>?_))
  obtain ⟨i,rfl⟩:=Int.eq_ofNat_of_zero_le x0
  have hi:i < ws.length:=by omega
  have hn1:σ1 nm = some (.list (ws.map .int)):=(f1 nm (h.nmdk hn)).trans hn
  obtain ⟨p,hpL,e⟩:=List.mem_map.mp (hp.mem_iff.mp (List.getElem_mem hi))
  have e:p.1.number = ws[i]:=e
  refine ⟨.int p.1.number,(getAt_list hn1 (by omega)).trans ?_,k p σ1 hpL r1 f1⟩
  rw [List.getElem?_map,List.getElem?_eq_getElem hi,e]; rfl
theorem drop_y (h:LW σ dk tr nl od cc NS L V t) (z:t.Z) (hp:p ∈ L) (h1:rd ρ 1 = some (.ref tr)) (h2:rd ρ 2 = some (.ref nl)) (h6:rd ρ 6 = some (.int p.1.number))
    (k:∀ σ' t' A B nx,V = A ++ p.1 :: B→LR σ' dk nl od cc NS L→St σ' tr (V.length - 1) (A ++ B) .top t'→OkZ t'→σ' p.1.i = some (.node nx)→nx.en p.1.i = p.1→KN σ σ'→ev σ' ρ (.idx (.var 2) (.var 6)) = some (.ref p.1.i)→W (n + 10) r K ρ σ') :
    W (n + 10) (.cons (.expr (.call .dropNode (.cons (.var 1) (.cons (.idx (.var 2) (.var 6)) .nil)))) r) K ρ σ:=by
  have yV:=h.k.num p hp
  obtain ⟨m,e1,e2⟩:=h.k.ns _ yV
  have m20:m < 20:=Nat.lt_of_lt_of_le (List.getElem?_eq_some_iff.mp e2).1 h.nz
  obtain ⟨c,d,l,r',S2,ep,ey⟩:=find_in h.S z (by rw [h.S.all]; exact yV)
  have ep:plug c (.nd p.1.i d l r') = t:=ep
  have vl:V.length < 900:=Nat.lt_of_le_of_lt (Nat.le_trans h.k.len h.nz) (by omega)
  refine R.call (n:=n + 10) (vs:=[.ref tr,.ref p.1.i]) (evs2 (e:=.var 1) h1 (ev_idx (a:=.var 2) (b:=.var 6) (l:=nl) (i:=m) h2 (e1 ▸ h6) h.r.n (by omega) e2)) (dropNode_ok (n:=n + 3) S2 (ep ▸ ⟨h.O,z⟩) vl fun σ3 t3 A B eV S3 O3 hx K3=>?_)
  rw [ey] at eV hx
  obtain ⟨nx,x1,x2⟩:=hx
  have kn:=S2.kn K3
  have r3:=h.r.keep kn
  exact k σ3 t3 A B nx eV r3 S3 O3 x1 x2 kn (ev_idx (a:=.var 2) (b:=.var 6) (l:=nl) (i:=m) h2 (e1 ▸ h6) r3.n (by omega) e2)
theorem R.delidx {o i:E} {d:Nat} {m:Int} {kvs:List (Int × SV)} (ho:ev σ ρ o = some (.ref d)) (hi:ev σ ρ i = some (.int m)) (hd:σ d = some (.dict kvs)) (hs:(dget kvs m).isSome = true) (hz:kvs.length < 1000) (k:W n r K ρ (upd σ d (.dict (ddel kvs m)))):W n (.cons (.delidx o i) r) K ρ σ :=
  ev_ok (e:=o) ho (ev_ok (e:=i) hi ⟨d,rfl,kvs,dictAt_ref hd,m,rfl,hs,hz,k⟩)
theorem LR.del {m:Int} (h:LR σ dk nl od cc NS L):LR (upd σ od (.dict (ddel (kvOf L) m))) dk nl od cc NS (L.filter fun p=>!(p.1.number == m)):=by
  have e:ddel (kvOf L) m = kvOf (L.filter fun p=>!(p.1.number == m)):=by
    unfold ddel kvOf
    rw [List.filter_map]
    rfl
  rw [e]
  obtain ⟨odk,onl,orow⟩:=h.odl
  obtain ⟨da,is,a1,a2,a3,a4,a5⟩:=h.dkh
  refine ⟨⟨da,is,(upd_ne _ _ (Ne.symm odk)).trans a1,(upd_ne _ _ fun q=>by have:=h.o; rw [← q,a2] at this; cases this).trans a2,a3,a4,a5⟩,(upd_ne _ _ (Ne.symm onl)).trans h.n,h.nd,upd_same ..,fun p hp=>?_⟩
  have hp:=(List.mem_filter.mp hp).1
  exact ⟨(upd_ne _ _ (orow p hp)).trans (h.rows p hp).1,(h.rows p hp).2⟩
theorem Link.others {y:En} {A B:List En} (h:Link V NS L) (eV:V = A ++ y :: B):(∀ z ∈ A ++ B,z.number ≠ y.number)∧((A ++ B).map (·.number)).Nodup∧∀ z ∈ A ++ B,z ∈ V:=by
  have nn:=h.nn
  rw [eV] at nn
  have P:(A ++ y :: B).Perm (y :: (A ++ B)):=List.perm_middle
  have nn2:=(P.map (·.number)).nodup_iff.mp nn
  rw [List.map_cons,List.nodup_cons] at nn2
  exact ⟨fun z hz e=>nn2.1 (e ▸ List.mem_map_of_mem hz),nn2.2,fun z hz=>by rw [eV]; exact P.mem_iff.mpr (.tail _ hz)⟩
theorem Link.drop {y:En} {A B:List En} (h:Link V NS L) (eV:V = A ++ y :: B):Link (A ++ B) NS (L.filter fun p=>!(p.1.number == y.number)):=by
  obtain ⟨h1,h2,h3⟩:=h.others eV
  refine ⟨?_,h2,fun z hz=>h.ns z (h3 z hz),fun z hz=>h.be z (h3 z hz),?_⟩
  · have e:(L.filter fun p=>!(p.1.number == y.number)).map (·.1) = (L.map (·.1)).filter fun z=>!(z.number == y.number):=by
      rw [List.filter_map]; rfl
    rw [e]
    refine (h.perm.filter _).trans ?_
    rw [eV,List.filter_append,List.filter_cons,beq_self_eq_true]
    have key:∀ X:List En,(∀ z ∈ X,z ∈ A ++ B)→X.filter (fun z=>!(z.number == y.number)) = X:=fun X hX=>List.filter_eq_self.mpr fun z hz=>by
      have:=h1 z (hX z hz)
      simp [this]
    rw [key A fun z hz=>List.mem_append_left _ hz]
    show (A ++ B.filter (fun z=>!(z.number == y.number))).Perm _
    rw [key B fun z hz=>List.mem_append_right _ hz]
  · have:=h.len
    rw [eV] at this
    simp only [List.length_append,List.length_cons] at this ⊢
    omega
theorem br_drop {a6 a7 a8 a9 a10:Option SV} (h:LW σ dk tr nl od cc NS L V t) (z:t.Z) (hc:cc < 800) (hn:σ nm = some (.list (ws.map .int))) (hp:ws.Perm (L.map fun p=>p.1.number)) (hw:ws ≠ [])
    (k:∀ σ' cc' NS' L' V' t',LW σ' dk tr nl od cc' NS' L' V' t'→cc' ≤ cc + 5→NS'.length ≤ NS.length + 1→Q .none σ') :
    W (n + 10) (.cons (.assign 6 (.idx (.var 5) (.call .lawDraw (.cons (.var 0) (.cons (.len (.var 5)) .nil))))) (.cons (.expr (.call .dropNode (.cons (.var 1) (.cons (.idx (.var 2) (.var 6)) .nil)))) (.cons (.delidx (.var 3) (.var 6)) .nil))) (Fq Q) (dnρ dk tr nl od way nm a6 a7 a8 a9 a10) σ:=by
  have ll:L.length < 900:=by rw [h.k.llen]; exact Nat.lt_of_le_of_lt (Nat.le_trans h.k.len h.nz) (by omega)
  refine P.assign (pick (n:=n + 9) h.r hn hp hw ll (by omega) rfl rfl fun p σ1 hpL r1 f1=>?_)
  have h1:=h.draw r1 f1
  refine drop_y (n:=n) (ρ:=dnρ dk tr nl od way nm (some (.int p.1.number)) a7 a8 a9 a10) h1 z hpL rfl rfl rfl fun σ2 t2 A B nx eV r2 S2 O2 x1 x2 kn e26=>?_
  refine R.delidx (n:=n + 10) (d:=od) (m:=p.1.number) rfl rfl r2.o (by rw [dget_kvOf h.k.lnn hpL]; rfl) (by rw [List.length_map]; omega) (Fq.now (fl:=.next) (k _ (cc + 1) NS _ (A ++ B) t2 ⟨r2.del,h.k.drop eV,?_,O2.toOk,?_,h.nz⟩ (by omega) (by omega)))
  · have:((A ++ B).length:Int) = (V.length:Int) - 1:=by rw [eV]; simp only [List.length_append,List.length_cons]; omega
    rw [this]
    exact S2.outL (by rw [r2.o]; trivial)
  · have so:=h.so
    rw [eV] at so
    exact so.sublist (List.Sublist.append (List.Sublist.refl _) (List.sublist_cons_self _ _))
end
end Mine
namespace Mine
section
variable {n:Nat} {Q:SV→Hp→Prop} {K:Fl→Lc→Hp→Prop} {ρ:Lc} {σ:Hp} {r:Ss} {q:SV→Hp→Prop} {dk tr nl od cc nm:Nat} {NS:List SV} {L:List (En × Nat)} {V:List En} {t:T} {ws:List Int} {way:Int}
theorem LW.ll (h:LW σ dk tr nl od cc NS L V t):L.length ≤ 20∧V.length ≤ 20:=by
  have:=h.k.llen
  have:=h.k.len
  have:=h.nz
  omega
theorem LW.rowsOf {p:En × Nat} (h:LR σ dk nl od cc NS L) (hp:p ∈ L):σ p.2 = some (.list (rowOf p.1)):=(h.rows p hp).1
noncomputable def mvBody:Ss:=(.cons (.asg [6,7,8] (.cons (.idx (.var 5) (.call .lawDraw (.cons (.var 0) (.cons (.len (.var 5)) .nil)))) (.cons (.call .lawDraw (.cons (.var 0) (.cons (.int 20) .nil))) (.cons (.call .lawDraw (.cons (.var 0) (.cons (.int 5) .nil))) .nil)))) (.cons (.expr (.call .dropNode (.cons (.var 1) (.cons (.idx (.var 2) (.var 6)) .nil)))) (.cons (.asgAttr2 (.idx (.var 2) (.var 6)) .begin_ (.idx (.var 2) (.var 6)) .end_ (.var 7) (.bin .add (.var 7) (.var 8))) (.cons (.expr (.call .putNode (.cons (.var 1) (.cons (.idx (.var 2) (.var 6)) .nil)))) (.cons (.setidx (.var 3) (.var 6) (.cat (.list (.cons (.var 7) (.cons (.bin .add (.var 7) (.var 8)) .nil))) (.from_ (.idx (.var 3) (.var 6)) 2))) .nil)))))
theorem br_move {a6 a7 a8 a9 a10:Option SV} (h:LW σ dk tr nl od cc NS L V t) (z:t.Z) (hc:cc < 800) (hn:σ nm = some (.list (ws.map .int))) (hp:ws.Perm (L.map fun p=>p.1.number)) (hw:ws ≠ [])
    (k:∀ σ' cc' NS' L' V' t',LW σ' dk tr nl od cc' NS' L' V' t'→cc' ≤ cc + 5→NS'.length ≤ NS.length + 1→Q .none σ') :
    W (n + 10) mvBody (Fq Q) (dnρ dk tr nl od way nm a6 a7 a8 a9 a10) σ:=by
  obtain ⟨ll,vl⟩:=h.ll
  refine P.asg (P.cons (pick (n:=n + 9) h.r hn hp hw (Nat.lt_of_le_of_lt ll (by decide)) (dr0 hc) rfl rfl fun p σ1 hpL r1 f1=>P.cons (E.draw (n:=n + 9) (many:=20) r1 rfl (by decide) (dr1 hc) fun b σ2 b0 b1 r2 f2=>P.cons (E.draw (n:=n + 9) (many:=5) r2 rfl (by decide) (dr2 hc) fun m σ3 m0 m1 r3 f3=>⟨rfl,?_⟩))))
  have h3:=((h.draw r1 f1).draw r2 f2).draw r3 f3
  show W (n + 10) _ (Fq Q) (dnρ dk tr nl od way nm (some (.int p.1.number)) (some (.int b)) (some (.int m)) a9 a10) σ3
  refine drop_y (n:=n) (ρ:=dnρ dk tr nl od way nm (some (.int p.1.number)) (some (.int b)) (some (.int m)) a9 a10) h3 z hpL rfl rfl rfl fun σ4 t4 A B nx eV r4 S4 O4 x1 x2 kn e26=>?_
  have yV:=h.k.num p hpL
  obtain ⟨mm,e1,e2⟩:=h.k.ns _ yV
  have m20:mm < 20:=Nat.lt_of_lt_of_le (List.getElem?_eq_some_iff.mp e2).1 h.nz
  have idx26:∀ σ',LR σ' dk nl od (cc + 1 + 1 + 1) NS L→ev σ' (dnρ dk tr nl od way nm (some (.int p.1.number)) (some (.int b)) (some (.int m)) a9 a10) (.idx (.var 2) (.var 6)) = some (.ref p.1.i):=fun σ' r'=>ev_idx (a:=.var 2) (b:=.var 6) (l:=nl) (i:=mm) rfl (by rw [e1.symm]; rfl) r'.n (Nat.lt_trans m20 (by decide)) e2
  have kn1:∀ σ σ':Hp,σ p.1.i = some (.node nx)→(∀ z,z ≠ p.1.i→σ' z = σ z)→KN σ σ':=fun σ σ' hx f z o hz e=>(f z fun q=>by rw [q,hx] at e; cases e; exact hz.elim).trans e
  have r5:=r4.keep (kn1 σ4 (upd σ4 p.1.i (.node { nx with begin_:=b })) x1 fun z hz=>upd_ne _ _ hz)
  refine R.asgAttr2 (n:=n + 10) (i:=p.1.i) (n1:=nx) (n2:={ nx with begin_:=b }) (n3:={ nx with begin_:=b,end_:=b + m }) (v:=.int b) (w:=.int (b + m)) rfl (ev_add (a:=.var 7) (b:=.var 8) rfl rfl) e26 (idx26 _ r5) x1 rfl rfl ?_
  have f6:∀ z,z ≠ p.1.i→upd (upd σ4 p.1.i (.node { nx with begin_:=b })) p.1.i (.node { nx with begin_:=b,end_:=b + m }) z = σ4 z:=fun z hz=>(upd_ne _ _ hz).trans (upd_ne _ _ hz)
  have x6:upd (upd σ4 p.1.i (.node { nx with begin_:=b })) p.1.i (.node { nx with begin_:=b,end_:=b + m }) p.1.i = _:=upd_same ..
  generalize upd (upd σ4 p.1.i (.node { nx with begin_:=b })) p.1.i (.node { nx with begin_:=b,end_:=b + m }) = σ6 at *
  have r6:=r4.keep (kn1 σ4 σ6 x1 f6)
  have nd:=h.S.lenids
  rw [eV] at nd
  have ndp:(p.1.i :: (A ++ B).map (·.i)).Nodup:=by
    have:((A ++ p.1 :: B).map (·.i)).Perm (p.1.i :: (A ++ B).map (·.i)):=(List.perm_middle (a:=p.1)).map (·.i)
    exact this.nodup_iff.mp nd.1
  rw [List.nodup_cons] at ndp
  have xn:p.1.i ∉ tr :: (A ++ B).map (·.i):=fun q=>by
    rcases List.mem_cons.mp q with q | q
    · exact nd.2 (q ▸ List.mem_map_of_mem (List.mem_append_right _ (.head _)))
    · exact ndp.1 q
  have S6:=S4.out (σ':=σ6) fun z hz=>f6 z fun q=>xn (q ▸ hz)
  have so:=h.so
  rw [eV] at so
  have so':Srt (A ++ B):=so.sublist (List.Sublist.append (List.Sublist.refl _) (List.sublist_cons_self _ _))
  refine R.call (n:=n + 10) (vs:=[.ref tr,.ref p.1.i]) (evs2 (e:=.var 1) rfl (idx26 _ r6)) (putNode_ok (n:=n + 4) S6 O4.toOk so' x6 xn fun σ7 t7 V7 S7 O7 so7 P7 K7=>?_)
  have ey:Nd.en p.1.i { nx with begin_:=b,end_:=b + m } = { p.1 with b:=b,e:=b + m }:=by
    show En.mk p.1.i nx.number b (b + m) nx.front nx.rear = En.mk p.1.i p.1.number b (b + m) p.1.front p.1.rear
    rw [show nx.number = p.1.number from congrArg En.number x2,show nx.front = p.1.front from congrArg En.front x2,show nx.rear = p.1.rear from congrArg En.rear x2]
  rw [ey] at P7
  have kn7:KN σ6 σ7:=.of K7 fun z hz=>by
    rcases List.mem_cons.mp hz with rfl | hz
    · rw [x6]; exact fun h=>h
    · exact fun h=>S6.apartL h hz
  have r7:=r6.keep kn7
  -- own's new row
  refine P.setidx (P.cat (evs_ok (n:=n + 10) (v:=[.int b,.int (b + m)]) (evs2 (e:=.var 7) rfl (ev_add (a:=.var 7) (b:=.var 8) rfl rfl)) ⟨by show 2 < 1000; decide,fun l1 h1=>?_⟩))
  have K1:Keep [] σ7 (upd σ7 l1 (.list [.int b,.int (b + m)])):=Keep.new h1
  have q1:upd σ7 l1 (.list [.int b,.int (b + m)]) l1 = _:=upd_same ..
  generalize upd σ7 l1 (.list [.int b,.int (b + m)]) = σ8 at *
  have r8:=r7.keep (.keep K1)
  refine P.from_ (n:=n + 10) (l:=p.2) (ev_idxD (a:=.var 3) (b:=.var 6) (l:=od) (i:=p.1.number) rfl rfl r8.o (dget_kvOf h.k.lnn hpL)) (LW.rowsOf r8 hpL) (by show 4 < 1000; decide) fun l2 h2=>?_
  have K2:Keep [] σ8 (upd σ8 l2 (.list ((rowOf p.1).drop 2))):=Keep.new h2
  have q2:upd σ8 l2 (.list ((rowOf p.1).drop 2)) l2 = some (.list [.bool p.1.front,.bool p.1.rear]):=upd_same ..
  generalize upd σ8 l2 (.list ((rowOf p.1).drop 2)) = σ9 at *
  have r9:=r8.keep (.keep K2)
  refine ⟨_,listAt_ref (K2 _ _ (fun q=>nomatch q) q1),_,listAt_ref q2,Nat.lt_of_lt_of_le (show 2 < 3 by decide) (by decide),Nat.lt_of_lt_of_le (show 2 < 3 by decide) (by decide),fun l3 h3'=>?_⟩
  have K3:Keep [] σ9 (upd σ9 l3 (.list [.int b,.int (b + m),.bool p.1.front,.bool p.1.rear])):=Keep.new h3'
  have q3:upd σ9 l3 (.list [.int b,.int (b + m),.bool p.1.front,.bool p.1.rear]) l3 = some (.list (rowOf { p.1 with b:=b,e:=b + m })):=upd_same ..
  have fr:∀ z o,σ9 z = some o→l3 ≠ z:=fun z o e q'=>by rw [← q',h3'] at e; cases e
  have Kall:=(K1.trans K2).trans K3
  show wpE (wpFn fnD (n + 11)) (.var 3) _ _ (upd σ9 l3 (.list [.int b,.int (b + m),.bool p.1.front,.bool p.1.rear]))
  generalize upd σ9 l3 (.list [.int b,.int (b + m),.bool p.1.front,.bool p.1.rear]) = σ10 at *
  have r10:=r9.keep (.keep K3)
  refine ev_ok (n:=n + 10) (e:=.var 3) (v:=.ref od) rfl (ev_ok (n:=n + 10) (e:=.var 6) (v:=.int p.1.number) rfl ⟨_,setAt_dict r10.o (by rw [List.length_map]; exact Nat.lt_of_le_of_lt ll (by decide)),?_⟩)
  have hout:=h.k.others eV
  have eL:(rep p.1.number { p.1 with b:=b,e:=b + m } l3 L).map (·.1) = (L.map (·.1)).map fun z=>if z.number == p.1.number then { p.1 with b:=b,e:=b + m } else z:=rep_fst
  refine Fq.now (fl:=.next) (k _ (cc + 1 + 1 + 1) NS _ V7 t7 ⟨r10.put (y:={ p.1 with b:=b,e:=b + m }) ⟨p,hpL,rfl⟩ rfl q3 (fr _ _ r9.n) (by obtain ⟨da,is,a1,_⟩:=r9.dkh; exact fr _ _ a1),h.k.map ?_ eL ?_ ?_ ?_,?_,O7,so7,h.nz⟩ (Nat.add_le_add_left (show 3 ≤ 5 by decide) cc) (Nat.le_succ _))
  · refine P7.trans ?_
    have key:∀ X:List En,(∀ z ∈ X,z ∈ A ++ B)→X.map (fun z=>if z.number == p.1.number then { p.1 with b:=b,e:=b + m } else z) = X:=fun X hX=>by
      conv=>rhs; rw [← List.map_id X]
      refine List.map_congr_left fun z hz=>?_
      have:=hout.1 z (hX z hz)
      rw [if_neg (by simp [this])]
      rfl
    rw [eV,List.map_append,List.map_cons,key A fun z hz=>List.mem_append_left _ hz,key B fun z hz=>List.mem_append_right _ hz,if_pos (beq_self_eq_true _)]
    exact List.perm_middle.symm
  · intro y
    dsimp only
    split
    · rename_i c; exact (by simpa using c:y.number = p.1.number).symm
    · rfl
  · intro y hy
    dsimp only
    split
    · rename_i c
      have:y = p.1:=nodup_inj (f:=fun y:En=>y.number) h.k.nn hy yV (by simpa using c)
      rw [this]
    · rfl
  · intro y hy
    dsimp only
    split
    · show b ≤ b + m; omega
    · exact hy
  · have ev:((V.length:Int) - 1 + 1) = (V7.length:Int):=by rw [P7.length_eq,eV]; simp only [List.length_append,List.length_cons]; omega
    rw [ev] at S7
    exact (S7.keep Kall).outL (by rw [r10.o]; trivial)
end
end Mine
namespace Mine
section
variable {n:Nat} {Q:SV→Hp→Prop} {σ:Hp} {dk tr nl od cc nm:Nat} {NS:List SV} {L:List (En × Nat)} {V:List En} {t:T} {ws:List Int} {way:Int}
noncomputable def opBody:Ss:=(.cons (.asg [9,8,10] (.cons (.call .lawDraw (.cons (.var 0) (.cons (.int 24) .nil))) (.cons (.bin .add (.int 1) (.call .lawDraw (.cons (.var 0) (.cons (.int 3) .nil)))) (.cons (.cmp .eq (.call .lawDraw (.cons (.var 0) (.cons (.int 3) .nil))) (.int 2)) .nil)))) (.cons (.expr (.call .openGap (.cons (.var 1) (.cons (.var 9) (.cons (.var 8) (.cons (.var 10) .nil)))))) (.cons (.forList 6 (.var 5) (.cons (.setidx (.var 3) (.var 6) (.call .lawCame (.cons (.idx (.var 3) (.var 6)) (.cons (.var 9) (.cons (.var 8) (.cons (.var 10) .nil)))))) .nil)) .nil)))
noncomputable def clBody:Ss:=(.cons (.asg [9,8] (.cons (.call .lawDraw (.cons (.var 0) (.cons (.int 24) .nil))) (.cons (.bin .add (.int 1) (.call .lawDraw (.cons (.var 0) (.cons (.int 6) .nil)))) .nil))) (.cons (.expr (.call .closeGap (.cons (.var 1) (.cons (.var 9) (.cons (.var 8) .nil))))) (.cons (.forList 6 (.var 5) (.cons (.setidx (.var 3) (.var 6) (.call .lawWent (.cons (.idx (.var 3) (.var 6)) (.cons (.var 9) (.cons (.var 8) .nil))))) .nil)) .nil)))
theorem br_open {a6 a7 a8 a9 a10:Option SV} (h:LW σ dk tr nl od cc NS L V t) (z:t.Z) (hc:cc < 800) (hn:σ nm = some (.list (ws.map .int))) (hp:ws.Perm (L.map fun p=>p.1.number))
    (k:∀ σ' cc' NS' L' V' t',LW σ' dk tr nl od cc' NS' L' V' t'→cc' ≤ cc + 5→NS'.length ≤ NS.length + 1→Q .none σ') :
    W (n + 10) opBody (Fq Q) (dnρ dk tr nl od way nm a6 a7 a8 a9 a10) σ:=by
  obtain ⟨ll,vl⟩:=h.ll
  refine P.asg (P.cons (E.draw (n:=n + 9) (many:=24) h.r rfl (by decide) (dr0 hc) fun at_ σ1 b0 b1 r1 f1=>P.cons (P.bin (ev_ok (n:=n + 10) (e:=.int 1) (v:=.int 1) rfl (E.draw (n:=n + 9) (many:=3) r1 rfl (by decide) (dr1 hc) fun m σ2 m0 m1 r2 f2=>⟨1,rfl,m,rfl,1 + m,rfl,?_⟩)))))
  refine P.cons (P.cmp (E.draw (n:=n + 9) (many:=3) r2 rfl (by decide) (dr2 hc) fun x3 σ3 _ _ r3 f3=>⟨x3,rfl,2,rfl,rfl,?_⟩))
  have h3:=((h.draw r1 f1).draw r2 f2).draw r3 f3
  have hn3:σ3 nm = some (.list (ws.map .int)):=(f3 nm (h.r.nmdk hn)).trans ((f2 nm (h.r.nmdk hn)).trans ((f1 nm (h.r.nmdk hn)).trans hn))
  show W (n + 10) _ (Fq Q) (dnρ dk tr nl od way nm a6 a7 (some (.int (1 + m))) (some (.int at_)) (some (.bool (cmpI .eq x3 2)))) σ3
  generalize cmpI .eq x3 2 = bm
  have m2:0 < 1 + m:=Int.lt_of_lt_of_le (by decide:(0:Int) < 1 + 0) (Int.add_le_add_left m0 1)
  generalize 1 + m = many at *
  refine R.call (n:=n + 10) (vs:=[.ref tr,.int at_,.int many,.bool bm]) rfl (openGap_ok (n:=n + 1) m2 h3.S ⟨h3.O,z⟩ h3.so h.k.be (Nat.lt_of_le_of_lt vl (by decide)) fun σ4 t4 V4 S4 O4 so4 P4 K4=>?_)
  have kn:=h3.S.kn K4
  have r4:=h3.r.keep kn
  have hn4:=kn nm (.list (ws.map .int)) trivial hn3
  refine own_loop (n:=n + 10) (g:=came at_ many bm) (args:=[.int at_,.int many,.bool bm]) r4 (Nat.lt_of_le_of_lt ll (by decide)) h.k.lnn hp (fun _=>rfl) rfl hn4 (fun _=>rfl) (fun _=>rfl) (fun σ m a e=>?_) (fun Q σ a y hy kk=>came_ok (n:=n + 9) hy kk) fun σ5 L5 r5 e5 K5=>?_
  · show (ev σ _ (.idx (.var 3) (.var 6))).bind _ = _
    rw [e]; rfl
  · have P5:(V4.length:Int) = (V.length:Int):=by rw [P4.length_eq,List.length_map]
    refine k σ5 (cc + 1 + 1 + 1) NS L5 V4 t4 ⟨r5,h.k.map P4 e5 (fun _=>rfl) (fun _ _=>rfl) (fun _ hy=>came_be m2 hy),?_,O4,so4,h.nz⟩ (Nat.add_le_add_left (show 3 ≤ 5 by decide) cc) (Nat.le_succ _)
    rw [P5]
    exact S4.keepS K5 fun z hz=>by
      rw [List.mem_singleton.mp hz]
      exact S4.apartL (by rw [r4.o]; trivial)
theorem br_close {a6 a7 a8 a9 a10:Option SV} (h:LW σ dk tr nl od cc NS L V t) (z:t.Z) (hc:cc < 800) (hn:σ nm = some (.list (ws.map .int))) (hp:ws.Perm (L.map fun p=>p.1.number))
    (k:∀ σ' cc' NS' L' V' t',LW σ' dk tr nl od cc' NS' L' V' t'→cc' ≤ cc + 5→NS'.length ≤ NS.length + 1→Q .none σ') :
    W (n + 10) clBody (Fq Q) (dnρ dk tr nl od way nm a6 a7 a8 a9 a10) σ:=by
  obtain ⟨ll,vl⟩:=h.ll
  refine P.asg (P.cons (E.draw (n:=n + 9) (many:=24) h.r rfl (by decide) (dr0 hc) fun at_ σ1 b0 b1 r1 f1=>P.cons (P.bin (ev_ok (n:=n + 10) (e:=.int 1) (v:=.int 1) rfl (E.draw (n:=n + 9) (many:=6) r1 rfl (by decide) (dr1 hc) fun m σ2 m0 m1 r2 f2=>⟨1,rfl,m,rfl,1 + m,rfl,rfl,?_⟩)))))
  have h2:=(h.draw r1 f1).draw r2 f2
  have hn2:σ2 nm = some (.list (ws.map .int)):=(f2 nm (h.r.nmdk hn)).trans ((f1 nm (h.r.nmdk hn)).trans hn)
  show W (n + 10) _ (Fq Q) (dnρ dk tr nl od way nm a6 a7 (some (.int (1 + m))) (some (.int at_)) a10) σ2
  have m2:0 < 1 + m:=Int.lt_of_lt_of_le (by decide:(0:Int) < 1 + 0) (Int.add_le_add_left m0 1)
  generalize 1 + m = many at *
  refine R.call (n:=n + 10) (vs:=[.ref tr,.int at_,.int many]) rfl (closeGap_ok (n:=n + 7) m2 h2.S h2.O z h2.so h.k.be (Nat.lt_of_le_of_lt vl (by decide)) fun σ4 t4 S4 O4 K4=>?_)
  have kn:=h2.S.kn K4
  have r4:=h2.r.keep kn
  have hn4:=kn nm (.list (ws.map .int)) trivial hn2
  refine own_loop (n:=n + 10) (g:=gWent at_ many) (args:=[.int at_,.int many]) r4 (Nat.lt_of_le_of_lt ll (by decide)) h.k.lnn hp (fun _=>rfl) rfl hn4 (fun _=>rfl) (fun _=>rfl) (fun σ m a e=>?_) (fun Q σ a y hy kk=>went_ok (n:=n + 9) hy kk) fun σ5 L5 r5 e5 K5=>?_
  · show (ev σ _ (.idx (.var 3) (.var 6))).bind _ = _
    rw [e]; rfl
  · have P5:((V.map (gWent at_ many)).length:Int) = (V.length:Int):=by rw [List.length_map]
    refine k σ5 (cc + 1 + 1) NS L5 _ t4 ⟨r5,h.k.map (.refl _) e5 (fun _=>rfl) (fun _ _=>rfl) (fun _ hy=>went_be hy),?_,O4,Srt.went h2.so m2,h.nz⟩ (Nat.add_le_add_left (show 2 ≤ 5 by decide) cc) (Nat.le_succ _)
    rw [P5]
    exact S4.keepS K5 fun z hz=>by
      rw [List.mem_singleton.mp hz]
      exact S4.apartL (by rw [r4.o]; trivial)
theorem done_ok (h:LW σ dk tr nl od cc NS L V t) (z:t.Z) (hc:cc < 700) (hz:NS.length < 20)
    (k:∀ σ' cc' NS' L' V' t',LW σ' dk tr nl od cc' NS' L' V' t'→cc' ≤ cc + 6→NS'.length ≤ NS.length + 1→Q .none σ'):wpFn fnD (n + 12) .lawDone [.ref dk,.ref tr,.ref nl,.ref od] Q σ:=by
  obtain ⟨ll,vl⟩:=h.ll
  have c8:cc + 1 < 800:=Nat.lt_trans (Nat.succ_lt_succ hc) (by decide)
  refine ⟨rfl,P.assign (E.draw (n:=n + 9) (many:=6) h.r rfl (by decide) (Nat.lt_trans hc (by decide)) fun way σ1 _ _ r1 f1=>P.assign (P.sortedKeys (n:=n + 10) (a:=.var 3) rfl r1.o (by rw [List.length_map]; exact Nat.lt_of_le_of_lt ll (by decide)) fun ws nm hp _ hnm=>?_))⟩
  have h1:=h.draw r1 f1
  have hp:ws.Perm (L.map fun p=>p.1.number):=by rw [List.map_map] at hp; exact hp
  have K2:Keep [] σ1 (upd σ1 nm (.list (ws.map .int))):=Keep.new hnm
  have n2:upd σ1 nm (.list (ws.map .int)) nm = _:=upd_same ..
  have h2:=h1.keep K2
  generalize upd σ1 nm (.list (ws.map .int)) = σ2 at *
  show W (n + 10) _ (Fq Q) (dnρ dk tr nl od way nm none none none none none) σ2
  refine done_test (n:=n + 10) (way:=way) (nm:=nm) (ws:=ws) rfl rfl n2 (fun σ3 K3=>?_) fun _ hw σ3 K3=>?_
  · exact R.call (n:=n + 10) (vs:=[.ref dk,.ref tr,.ref nl,.ref od]) rfl (laid_ok (n:=n + 1) (h2.keep K3) c8 hz fun σ4 NS4 L4 V4 t4 h4 e4=>Fq.now (fl:=.next) (k σ4 _ NS4 L4 V4 t4 h4 (by omega) (by omega)))
  · have h3:=h2.keep K3
    have n3:=K3 nm _ (fun q=>nomatch q) n2
    have kk:∀ σ' cc' NS' L' V' t',LW σ' dk tr nl od cc' NS' L' V' t'→cc' ≤ cc + 1 + 5→NS'.length ≤ NS.length + 1→Q .none σ':=fun σ' cc' NS' L' V' t' a b c=>k σ' cc' NS' L' V' t' a (by omega) c
    have e2:ev σ3 (dnρ dk tr nl od way nm none none none none none) (.cmp .eq (.var 4) (.int 2)) = some (.bool (cmpI .eq way 2)):=ev_cmp rfl rfl
    have e3:ev σ3 (dnρ dk tr nl od way nm none none none none none) (.cmp .eq (.var 4) (.int 3)) = some (.bool (cmpI .eq way 3)):=ev_cmp rfl rfl
    have e4:ev σ3 (dnρ dk tr nl od way nm none none none none none) (.cmp .eq (.var 4) (.int 4)) = some (.bool (cmpI .eq way 4)):=ev_cmp rfl rfl
    by_cases c2:way = 2
    · exact R.iteT (n:=n + 10) e2 (decide_eq_true c2) (br_drop h3 z c8 n3 hp hw kk)
    · refine R.iteF (n:=n + 10) e2 (decide_eq_false c2) ?_
      by_cases c3:way = 3
      · exact R.iteT (n:=n + 10) e3 (decide_eq_true c3) (br_move h3 z c8 n3 hp hw kk)
      · refine R.iteF (n:=n + 10) e3 (decide_eq_false c3) ?_
        by_cases c4:way = 4
        · exact R.iteT (n:=n + 10) e4 (decide_eq_true c4) (br_open h3 z c8 n3 hp kk)
        · exact R.iteF (n:=n + 10) e4 (decide_eq_false c4) (br_close h3 z c8 n3 hp kk)
end
end Mine
namespace Mine
theorem sorted_eq {l₁ l₂:List Int} (h1:l₁.Pairwise (· ≤ ·)) (h2:l₂.Pairwise (· ≤ ·)) (p:l₁.Perm l₂):l₁ = l₂:=List.Perm.eq_of_pairwise (fun _ _ _ _=>Int.le_antisymm) h1 h2 p
section
variable {n:Nat} {Q:Fl→Lc→Hp→Prop} {ρ:Lc} {σ:Hp} {r:Ss} {q:SV→Hp→Prop} {α:Type}
theorem compP_map {x l:Nat} {elt:E} (H:List α) (u w:α→SV) (hl:σ l = some (.list (H.map u))) (hz:H.length < 1000) (he:∀ a ∈ H,ev σ (ρ.set x (some (u a))) elt = some (w a)) (k:∀ l',σ l' = none→q (.ref l') (upd σ l' (.list (H.map w)))) :
    on (SV.ref l).asRef fun l'=>on (listAt σ (.ref l)) fun vs=>vs.length < 1000∧compGo l' vs (fun _ K σ=>K (.bool true) σ) (fun v K σ=>wpE (wpFn fnD (n + 1)) elt (ρ.set x (some v)) K σ) vs [] (fun ws σ=>newO (.list ws) q σ) σ:=by
  refine compP_ok (n:=n) (e:=fun v=>(ev σ (ρ.set x (some v)) elt).getD .none) hl (by rw [List.length_map]; exact hz) (fun v hv=>?_) fun l' hl'=>?_
  · obtain ⟨a,ha,rfl⟩:=List.mem_map.mp hv
    rw [he a ha]; rfl
  · have:(H.map u).map (fun v=>(ev σ (ρ.set x (some v)) elt).getD .none) = H.map w:=by
      rw [List.map_map]
      refine List.map_congr_left fun a ha=>?_
      show (ev σ (ρ.set x (some (u a))) elt).getD .none = w a
      rw [he a ha]; rfl
    rw [this]
    exact k l' hl'
theorem compIfP_map {x l:Nat} {elt c:E} (H:List α) (u w:α→SV) (f:α→Bool) (hl:σ l = some (.list (H.map u))) (hz:H.length < 1000) (hf:∀ a ∈ H,ev σ (ρ.set x (some (u a))) c = some (.bool (f a))) (he:∀ a ∈ H,ev σ (ρ.set x (some (u a))) elt = some (w a)) (k:∀ l',σ l' = none→q (.ref l') (upd σ l' (.list ((H.filter f).map w)))) :
    on (SV.ref l).asRef fun l'=>on (listAt σ (.ref l)) fun vs=>vs.length < 1000∧compGo l' vs (fun v K σ=>wpE (wpFn fnD (n + 1)) c (ρ.set x (some v)) K σ) (fun v K σ=>wpE (wpFn fnD (n + 1)) elt (ρ.set x (some v)) K σ) vs [] (fun ws σ=>newO (.list ws) q σ) σ:=by
  refine compIfP_ok (n:=n) (f:=fun v=>((ev σ (ρ.set x (some v)) c).bind SV.asBool).getD false) (e:=fun v=>(ev σ (ρ.set x (some v)) elt).getD .none) hl (by rw [List.length_map]; exact hz) (fun v hv=>?_) (fun v hv=>?_) fun l' hl'=>?_
  · obtain ⟨a,ha,rfl⟩:=List.mem_map.mp hv
    rw [hf a ha]; rfl
  · obtain ⟨a,ha,rfl⟩:=List.mem_map.mp hv
    rw [he a ha]; rfl
  · have:((H.map u).filter (fun v=>((ev σ (ρ.set x (some v)) c).bind SV.asBool).getD false)).map (fun v=>(ev σ (ρ.set x (some v)) elt).getD .none) = (H.filter f).map w:=by
      rw [List.filter_map,List.map_map]
      have e1:H.filter ((fun v=>((ev σ (ρ.set x (some v)) c).bind SV.asBool).getD false) ∘ u) = H.filter f:=List.filter_congr fun a ha=>by
        show ((ev σ (ρ.set x (some (u a))) c).bind SV.asBool).getD false = f a
        rw [hf a ha]; rfl
      rw [e1]
      refine List.map_congr_left fun a ha=>?_
      show (ev σ (ρ.set x (some (u a))) elt).getD .none = w a
      rw [he a (List.mem_filter.mp ha).1]; rfl
    rw [this]
    exact k l' hl'
theorem P.sorted {Γ:Cal} {a:E} (h:wpE Γ a ρ (fun v σ=>on (listAt σ v) fun vs=>sortedW vs q σ) σ):wpE Γ (.sorted a) ρ q σ:=h
theorem sortedI_ok {l:Nat} {is:List Int} (hl:σ l = some (.list (is.map .int))) (hz:is.length < 64) (k:∀ (ws:List Int) l',ws.Perm is→ws.Pairwise (· ≤ ·)→σ l' = none→q (.ref l') (upd σ l' (.list (ws.map .int)))):on (listAt σ (.ref l)) fun vs=>sortedW vs q σ :=
  ⟨_,listAt_ref hl,by rw [List.length_map]; exact hz,.inl ⟨is,intsOf_map is,fun ws h l' hl'=>k ws l' h.1 h.2 hl'⟩⟩
theorem trisOf_map:∀ is:List (Int × Int × Int),trisOf (is.map triV) = some is
  | []=>rfl
  | i :: r=>by
    show (some i).bind (fun i=>(trisOf (r.map triV)).map (i :: ·)) = _
    rw [trisOf_map r]; rfl
theorem flat_tris (is:List (Int × Int × Int)):flat (is.map triV) = true:=by
  unfold flat
  rw [trisOf_map,Option.isSome_some,Bool.or_true]
theorem sortedT_ok {l:Nat} {is:List (Int × Int × Int)} (hl:σ l = some (.list (is.map triV))) (hz:is.length < 64) (nn:(is.map (·.1)).Nodup) (k:∀ (ws:List (Int × Int × Int)) l',ws.Perm is→ws.Pairwise (fun a b=>a.1 < b.1)→σ l' = none→q (.ref l') (upd σ l' (.list (ws.map triV)))):on (listAt σ (.ref l)) fun vs=>sortedW vs q σ :=
  ⟨_,listAt_ref hl,by rw [List.length_map]; exact hz,.inr ⟨is,trisOf_map is,nn,fun ws h l' hl'=>k ws l' h.1 h.2 hl'⟩⟩
theorem P.is {Γ:Cal} {neg:Bool} {a b:E} (h:wpE Γ a ρ (fun v σ=>wpE Γ b ρ (fun w σ=>isOk σ v w∧q (.bool (neg != decide (v = w))) σ) σ) σ):wpE Γ (.is neg a b) ρ q σ:=h
end
noncomputable def lk (L:List (En × Nat)) (m:Int):En:=((L.find? fun p=>p.1.number == m).map (·.1)).getD ⟨0,0,0,0,false,false⟩
theorem lk_ok:∀ {L:List (En × Nat)} {p:En × Nat},(L.map fun p=>p.1.number).Nodup→p ∈ L→lk L p.1.number = p.1
  | [],_,_,h=>nomatch h
  | x :: L,p,nd,h=>by
    have nd:(x.1.number :: L.map fun p=>p.1.number).Nodup:=nd
    rw [List.nodup_cons] at nd
    unfold lk
    rw [List.find?_cons]
    rcases List.mem_cons.mp h with e | h
    · rw [e,beq_self_eq_true]; rfl
    · have:(x.1.number == p.1.number) = false:=by
        simp only [beq_eq_false_iff_ne]
        exact fun q=>nd.1 (q ▸ List.mem_map_of_mem h)
      rw [this]
      exact lk_ok nd.2 h
theorem find_any {σ:Hp} {tr:Nat} {cnt:Int} {V:List En} {y:En}:∀ {t:T} {c:C} {o:Int},St σ tr cnt V c t→y ∈ t.vals o→∃ nd,σ y.i = some (.node nd)∧nd.number = y.number
  | .nil,_,_,_,h=>nomatch h
  | .nd i d l r,c,o,S,h=>by
    rcases List.mem_append.mp h with h | h
    · exact find_any (c:=.L i d r c) S.downL h
    · rcases List.mem_cons.mp h with rfl | h
      · exact ⟨_,S.node,rfl⟩
      · exact find_any (c:=.R i d l c) S.downR h
end Mine
namespace Mine
section
variable {n:Nat} {Q:SV→Hp→Prop} {ρ:Lc} {σ:Hp} {q:SV→Hp→Prop} {dk tr nl od cc:Nat} {NS:List SV} {L:List (En × Nat)} {V:List En} {t:T}
theorem P.call {f:Fid} {es:Es} {vs:List SV} (h:evs σ ρ es = some vs) (k:wpFn fnD (n + 1) f vs q σ):wpE (wpFn fnD (n + 1)) (.call f es) ρ q σ:=evs_ok h k
theorem Link.lkV (h:Link V NS L) {y:En} (hy:y ∈ V):lk L y.number = y∧y.number ∈ L.map fun p=>p.1.number:=by
  obtain ⟨p,hp,rfl⟩:=List.mem_map.mp (h.perm.mem_iff.mpr hy)
  exact ⟨lk_ok h.lnn hp,List.mem_map_of_mem (f:=fun p:En × Nat=>p.1.number) hp⟩
theorem rowB (h:LR σ dk nl od cc NS L) (nn:(L.map fun p=>p.1.number).Nodup) {m:Int} (hm:m ∈ L.map fun p=>p.1.number) (h2:rd ρ 2 = some (.ref od)) (h8:rd ρ 8 = some (.int m)) :
    ev σ ρ (.idx (.idx (.var 2) (.var 8)) (.int 0)) = some (.int (lk L m).b)∧ev σ ρ (.idx (.idx (.var 2) (.var 8)) (.int 1)) = some (.int (lk L m).e):=by
  obtain ⟨p,hp,rfl⟩:=List.mem_map.mp hm
  rw [lk_ok nn hp]
  have e:=ev_idxD (a:=.var 2) (b:=.var 8) (l:=od) h2 h8 h.o (dget_kvOf nn hp)
  exact ⟨ev_idx (l:=p.2) (i:=0) e rfl (h.rows p hp).1 (by decide) rfl,ev_idx (l:=p.2) (i:=1) e rfl (h.rows p hp).1 (by decide) rfl⟩
noncomputable abbrev irρ (dk tr od:Nat) (bg en:Int) (f d a:Option SV):Lc:=[some (.ref dk),some (.ref tr),some (.ref od),some (.int bg),some (.int en),f,d,a,none]
theorem ev_tri {a b c:E} {i j k:Int} (h1:ev σ ρ a = some (.int i)) (h2:ev σ ρ b = some (.int j)) (h3:ev σ ρ c = some (.int k)):ev σ ρ (.tri a b c) = some (triV (i,j,k)):=by
  show (ev σ ρ a).bind _ = _
  rw [h1]
  show (ev σ ρ b).bind _ = _
  rw [h2]
  show (ev σ ρ c).bind _ = _
  rw [h3]
  rfl
theorem isRight_ok (h:LW σ dk tr nl od cc NS L V t) (hc:cc < 800)
    (k:∀ σ' t',LW σ' dk tr nl od (cc + 2) NS L V t'→t'.Z→Q (.bool true) σ'):wpFn fnD (n + 7) .lawIsRight [.ref dk,.ref tr,.ref od] Q σ:=by
  obtain ⟨ll,vl⟩:=h.ll
  have lnn:=h.k.lnn
  have pmV:(L.map fun p=>p.1.number).Perm (V.map (·.number)):=by
    have:=h.k.perm.map (·.number)
    rw [List.map_map] at this
    exact this
  refine ⟨rfl,P.assign (E.draw (n:=n + 4) (many:=24) h.r rfl (by decide) (Nat.lt_trans hc (by decide)) fun bg σ1 _ _ r1 f1=>P.assign (P.bin (ev_ok (n:=n + 5) (e:=.var 3) (v:=.int bg) rfl (E.draw (n:=n + 4) (many:=6) r1 rfl (by decide) (Nat.lt_trans (Nat.succ_lt_succ hc) (by decide)) fun m σ2 _ _ r2 f2=>⟨bg,rfl,m,rfl,bg + m,rfl,?_⟩))))⟩
  have h2:=(h.draw r1 f1).draw r2 f2
  generalize bg + m = en
  show W (n + 5) _ (Fq Q) (irρ dk tr od bg en none none none) σ2
  -- found
  refine P.assign (P.comp (P.call (n:=n + 5) (vs:=[.ref tr,.int bg,.int en]) rfl (nodesBetween_ok (n:=n + 3) h2.S h2.O h2.so (Nat.lt_of_le_of_lt vl (by decide)) fun σ3 t3 fa S3 O3 _ _ q3 K3=>?_)))
  have h3:LW σ3 dk tr nl od (cc + 1 + 1) NS L V t3:=⟨h2.r.keep (h2.S.kn K3),h2.k,S3,O3,h2.so,h2.nz⟩
  have Hlen:(V.filter (hits bg en)).length ≤ 20:=Nat.le_trans (List.length_filter_le _ _) vl
  refine compP_map (n:=n + 5) (V.filter (hits bg en)) (fun y=>.ref y.i) (fun y=>.int y.number) q3 (Nat.lt_of_le_of_lt Hlen (by decide)) (fun y hy=>?_) fun l4 hl4=>?_
  · obtain ⟨nd,n1,n2⟩:=find_any S3 (y:=y) (o:=0) (by rw [S3.all]; exact (List.mem_filter.mp hy).1)
    refine ((ev_attr (e:=.var 8) (f:=.number) rfl n1).trans rfl).trans ?_
    rw [← n2]; rfl
  have K4:Keep [] σ3 (upd σ3 l4 (.list ((V.filter (hits bg en)).map fun y=>.int y.number))):=Keep.new hl4
  have q4:upd σ3 l4 (.list ((V.filter (hits bg en)).map fun y=>.int y.number)) l4 = some (.list (((V.filter (hits bg en)).map (·.number)).map SV.int)):=(upd_same ..).trans (by rw [List.map_map]; rfl)
  generalize upd σ3 l4 (.list ((V.filter (hits bg en)).map fun y=>.int y.number)) = σ4 at *
  have h4:=h3.keep K4
  show W (n + 5) _ (Fq Q) (irρ dk tr od bg en (some (.ref l4)) none none) σ4
  -- due
  refine P.assign (P.compIf (P.sortedKeys (n:=n + 5) (a:=.var 2) rfl h4.r.o (by rw [List.length_map]; exact Nat.lt_of_le_of_lt ll (by decide)) fun ws l5 hp hs hl5=>?_))
  have hp:ws.Perm (L.map fun p=>p.1.number):=by rw [List.map_map] at hp; exact hp
  have wl:ws.length ≤ 20:=by rw [hp.length_eq,List.length_map]; exact ll
  have K5:Keep [] σ4 (upd σ4 l5 (.list (ws.map .int))):=Keep.new hl5
  have q5:upd σ4 l5 (.list (ws.map .int)) l5 = _:=upd_same ..
  have q45:=K5 _ _ (fun q=>nomatch q) q4
  generalize upd σ4 l5 (.list (ws.map .int)) = σ5 at *
  have h5:=h4.keep K5
  refine compIfP_map (n:=n + 5) ws .int .int (fun m=>hits bg en (lk L m)) q5 (Nat.lt_of_le_of_lt wl (by decide)) (fun m hm=>?_) (fun m hm=>rfl) fun l6 hl6=>?_
  · obtain ⟨e1,e2⟩:=rowB (ρ:=[some (.ref dk),some (.ref tr),some (.ref od),some (.int bg),some (.int en),some (.ref l4),none,none,some (.int m)]) h5.r lnn (hp.mem_iff.mp hm) rfl rfl
    exact ev_andB (ev_cmp (op:=.le) e1 rfl) (ev_cmp (op:=.ge) e2 rfl)
  have K6:Keep [] σ5 (upd σ5 l6 (.list ((ws.filter fun m=>hits bg en (lk L m)).map .int))):=Keep.new hl6
  have q6:upd σ5 l6 (.list ((ws.filter fun m=>hits bg en (lk L m)).map .int)) l6 = _:=upd_same ..
  have q46:=K6 _ _ (fun q=>nomatch q) q45
  generalize upd σ5 l6 (.list ((ws.filter fun m=>hits bg en (lk L m)).map .int)) = σ6 at *
  have h6:=h5.keep K6
  -- the two lists of numbers
  have dueP:(ws.filter fun m=>hits bg en (lk L m)).Perm ((V.filter (hits bg en)).map (·.number)):=by
    refine (hp.filter _).trans ((pmV.filter _).trans ?_)
    rw [List.filter_map]
    rw [show V.filter ((fun m=>hits bg en (lk L m)) ∘ fun y=>y.number) = V.filter (hits bg en) from List.filter_congr fun y hy=>by
      show hits bg en (lk L y.number) = _
      rw [(h.k.lkV hy).1]]
  have dueS:(ws.filter fun m=>hits bg en (lk L m)).Pairwise (· ≤ ·):=hs.filter _
  have dueM:∀ m ∈ ws.filter (fun m=>hits bg en (lk L m)),m ∈ L.map fun p=>p.1.number:=fun m hm=>hp.mem_iff.mp (List.mem_filter.mp hm).1
  have duel:(ws.filter fun m=>hits bg en (lk L m)).length ≤ 20:=Nat.le_trans (List.length_filter_le _ _) wl
  generalize hD:(ws.filter fun m=>hits bg en (lk L m)) = D at *
  show W (n + 5) _ (Fq Q) (irρ dk tr od bg en (some (.ref l4)) (some (.ref l6)) none) σ6
  refine P.ite (P.or (P.eqL (P.sorted (ev_ok (n:=n + 5) (e:=.var 5) (v:=.ref l4) rfl (sortedI_ok q46 (by rw [List.length_map]; exact Nat.lt_of_le_of_lt Hlen (by decide)) fun w7 l7 p7 s7 hl7=>?_)))))
  have K7:Keep [] σ6 (upd σ6 l7 (.list (w7.map .int))):=Keep.new hl7
  have q7:upd σ6 l7 (.list (w7.map .int)) l7 = _:=upd_same ..
  have q47:=K7 _ _ (fun q=>nomatch q) q46
  have q67:=K7 _ _ (fun q=>nomatch q) q6
  generalize upd σ6 l7 (.list (w7.map .int)) = σ7 at *
  have h7:=h6.keep K7
  have e7:w7 = D:=sorted_eq s7 dueS (p7.trans dueP.symm)
  subst e7
  refine ev_ok (n:=n + 5) (e:=.var 6) (v:=.ref l6) rfl ⟨_,listAt_ref q7,_,listAt_ref q67,flat_ints _,flat_ints _,false,by rw [decide_eq_true rfl]; rfl,?_⟩
  dsimp only
  rw [if_neg Bool.false_ne_true]
  refine P.eqL (P.comp (ev_ok (n:=n + 5) (e:=.var 5) (v:=.ref l4) rfl (compP_map (n:=n + 5) (V.filter (hits bg en)) (fun y=>.int y.number) (fun y=>.int y.b) (q47.trans (by rw [List.map_map]; rfl)) (Nat.lt_of_le_of_lt Hlen (by decide)) (fun y hy=>?_) fun l8 hl8=>?_)))
  · obtain ⟨e1,e2⟩:=h.k.lkV (List.mem_filter.mp hy).1
    have:=(rowB (ρ:=[some (.ref dk),some (.ref tr),some (.ref od),some (.int bg),some (.int en),some (.ref l4),some (.ref l6),none,some (.int y.number)]) h7.r lnn e2 rfl rfl).1
    rw [e1] at this
    exact this
  have K8:Keep [] σ7 (upd σ7 l8 (.list ((V.filter (hits bg en)).map fun y=>.int y.b))):=Keep.new hl8
  have q8:upd σ7 l8 (.list ((V.filter (hits bg en)).map fun y=>.int y.b)) l8 = some (.list (((V.filter (hits bg en)).map (·.b)).map SV.int)):=(upd_same ..).trans (by rw [List.map_map]; rfl)
  have q68:=K8 _ _ (fun q=>nomatch q) q67
  generalize upd σ7 l8 (.list ((V.filter (hits bg en)).map fun y=>.int y.b)) = σ8 at *
  have h8:=h7.keep K8
  refine P.sorted (P.comp (ev_ok (n:=n + 5) (e:=.var 6) (v:=.ref l6) rfl (compP_map (n:=n + 5) w7 .int (fun m=>.int (lk L m).b) q68 (Nat.lt_of_le_of_lt duel (by decide)) (fun m hm=>?_) fun l9 hl9=>?_)))
  · exact (rowB (ρ:=[some (.ref dk),some (.ref tr),some (.ref od),some (.int bg),some (.int en),some (.ref l4),some (.ref l6),none,some (.int m)]) h8.r lnn (dueM m hm) rfl rfl).1
  have K9:Keep [] σ8 (upd σ8 l9 (.list (w7.map fun m=>.int (lk L m).b))):=Keep.new hl9
  have q9:upd σ8 l9 (.list (w7.map fun m=>.int (lk L m).b)) l9 = some (.list ((w7.map fun m=>(lk L m).b).map SV.int)):=(upd_same ..).trans (by rw [List.map_map]; rfl)
  have q89:=K9 _ _ (fun q=>nomatch q) q8
  generalize upd σ8 l9 (.list (w7.map fun m=>.int (lk L m).b)) = σ9 at *
  have h9:=h8.keep K9
  refine sortedI_ok q9 (by rw [List.length_map]; exact Nat.lt_of_le_of_lt duel (by decide)) fun w10 l10 p10 s10 hl10=>?_
  have K10:Keep [] σ9 (upd σ9 l10 (.list (w10.map .int))):=Keep.new hl10
  have q10:upd σ9 l10 (.list (w10.map .int)) l10 = _:=upd_same ..
  have q810:=K10 _ _ (fun q=>nomatch q) q89
  generalize upd σ9 l10 (.list (w10.map .int)) = σ10 at *
  have h10:=h9.keep K10
  have e10:(V.filter (hits bg en)).map (·.b) = w10:=by
    refine sorted_eq (List.pairwise_map.mpr (h.so.filter _)) s10 (List.Perm.trans ?_ p10.symm)
    have:=(dueP.map fun m=>(lk L m).b).symm
    rw [List.map_map] at this
    refine List.Perm.trans (List.Perm.of_eq (List.map_congr_left fun y hy=>?_)) this
    show y.b = (lk L y.number).b
    rw [(h.k.lkV (List.mem_filter.mp hy).1).1]
  subst e10
  refine ⟨_,listAt_ref q810,_,listAt_ref q10,flat_ints _,flat_ints _,false,by rw [decide_eq_true rfl]; rfl,?_⟩
  show W (n + 5) (.cons (.assign 7 (.call .allNodesInOrder (.cons (.var 1) .nil))) _) (Fq Q) _ σ10
  refine P.assign (P.call (n:=n + 5) (vs:=[.ref tr]) rfl (allNodesInOrder_ok (n:=n + 3) h10.S (Nat.lt_of_le_of_lt vl (by decide)) fun σ11 t11 fb S11 O11 z11 _ q11 K11=>?_))
  have h11:LW σ11 dk tr nl od (cc + 1 + 1) NS L V t11:=⟨h10.r.keep (h10.S.kn K11),h10.k,S11,O11 h10.O,h10.so,h10.nz⟩
  show W (n + 5) _ (Fq Q) (irρ dk tr od bg en (some (.ref l4)) (some (.ref l6)) (some (.ref fb))) σ11
  refine P.ite (P.eqL (P.sorted (P.comp (ev_ok (n:=n + 5) (e:=.var 7) (v:=.ref fb) rfl (compP_map (n:=n + 5) V (fun y=>.ref y.i) (fun y=>triV (y.number,y.b,y.e)) q11 (Nat.lt_of_le_of_lt vl (by decide)) (fun y hy=>?_) fun l12 hl12=>?_)))))
  · obtain ⟨nx,n1,n2⟩:=S11.nodeOf z11 hy
    refine (ev_tri ((ev_attr (e:=.var 8) (f:=.number) rfl n1).trans rfl) ((ev_attr (e:=.var 8) (f:=.begin_) rfl n1).trans rfl) ((ev_attr (e:=.var 8) (f:=.end_) rfl n1).trans rfl)).trans ?_
    rw [← n2]; rfl
  have K12:Keep [] σ11 (upd σ11 l12 (.list (V.map fun y=>triV (y.number,y.b,y.e)))):=Keep.new hl12
  have q12:upd σ11 l12 (.list (V.map fun y=>triV (y.number,y.b,y.e))) l12 = some (.list ((V.map fun y=>(y.number,y.b,y.e)).map triV)):=(upd_same ..).trans (by rw [List.map_map]; rfl)
  generalize upd σ11 l12 (.list (V.map fun y=>triV (y.number,y.b,y.e))) = σ12 at *
  have h12:=h11.keep K12
  refine sortedT_ok q12 (by rw [List.length_map]; exact Nat.lt_of_le_of_lt vl (by decide)) (by rw [List.map_map]; exact h.k.nn) fun w13 l13 p13 s13 hl13=>?_
  have K13:Keep [] σ12 (upd σ12 l13 (.list (w13.map triV))):=Keep.new hl13
  have q13:upd σ12 l13 (.list (w13.map triV)) l13 = _:=upd_same ..
  generalize upd σ12 l13 (.list (w13.map triV)) = σ13 at *
  have h13:=h12.keep K13
  refine P.comp (P.sortedKeys (n:=n + 5) (a:=.var 2) rfl h13.r.o (by rw [List.length_map]; exact Nat.lt_of_le_of_lt ll (by decide)) fun w14 l14 p14 s14 hl14=>?_)
  have p14:w14.Perm (L.map fun p=>p.1.number):=by rw [List.map_map] at p14; exact p14
  have wl14:w14.length ≤ 20:=by rw [p14.length_eq,List.length_map]; exact ll
  have K14:Keep [] σ13 (upd σ13 l14 (.list (w14.map .int))):=Keep.new hl14
  have q14:upd σ13 l14 (.list (w14.map .int)) l14 = _:=upd_same ..
  have q134:=K14 _ _ (fun q=>nomatch q) q13
  generalize upd σ13 l14 (.list (w14.map .int)) = σ14 at *
  have h14:=h13.keep K14
  refine compP_map (n:=n + 5) w14 .int (fun m=>triV (m,(lk L m).b,(lk L m).e)) q14 (Nat.lt_of_le_of_lt wl14 (by decide)) (fun m hm=>?_) fun l15 hl15=>?_
  · obtain ⟨e1,e2⟩:=rowB (ρ:=[some (.ref dk),some (.ref tr),some (.ref od),some (.int bg),some (.int en),some (.ref l4),some (.ref l6),some (.ref fb),some (.int m)]) h14.r lnn (p14.mem_iff.mp hm) rfl rfl
    exact ev_tri rfl e1 e2
  have K15:Keep [] σ14 (upd σ14 l15 (.list (w14.map fun m=>triV (m,(lk L m).b,(lk L m).e)))):=Keep.new hl15
  have q15:upd σ14 l15 (.list (w14.map fun m=>triV (m,(lk L m).b,(lk L m).e))) l15 = some (.list ((w14.map fun m=>(m,(lk L m).b,(lk L m).e)).map triV)):=(upd_same ..).trans (by rw [List.map_map]; rfl)
  have q135:=K15 _ _ (fun q=>nomatch q) q134
  generalize upd σ14 l15 (.list (w14.map fun m=>triV (m,(lk L m).b,(lk L m).e))) = σ15 at *
  have h15:=h14.keep K15
  have e15:w13 = w14.map fun m=>(m,(lk L m).b,(lk L m).e):=by
    refine List.Perm.eq_of_pairwise (le:=fun a b:Int × Int × Int=>a.1 < b.1) (fun a b _ _ h1 h2=>absurd h1 (Int.not_lt.mpr (Int.le_of_lt h2))) s13 (List.pairwise_map.mpr ?_) (p13.trans ?_)
    · have nd:w14.Pairwise (· ≠ ·):=p14.nodup_iff.mpr lnn
      exact (s14.and nd).imp fun {a b} h=>by
        exact Int.lt_iff_le_and_ne.mpr h
    · refine List.Perm.trans ?_ ((p14.map fun m=>(m,(lk L m).b,(lk L m).e)).trans (pmV.map fun m=>(m,(lk L m).b,(lk L m).e))).symm
      rw [List.map_map]
      refine List.Perm.of_eq (List.map_congr_left fun y hy=>?_)
      show (y.number,y.b,y.e) = (y.number,(lk L y.number).b,(lk L y.number).e)
      rw [(h.k.lkV hy).1]
  subst e15
  refine ⟨_,listAt_ref q135,_,listAt_ref q15,flat_tris _,flat_tris _,false,by rw [decide_eq_true rfl]; rfl,?_⟩
  show W (n + 5) (.cons (.ret (.is false (.call .overlayTreeError (.cons (.var 1) .nil)) .none)) .nil) (Fq Q) _ σ15
  refine P.ret (P.is (P.call (n:=n + 5) (vs:=[.ref tr]) rfl (overlayTreeError_ok (n:=n + 1) h15.S ⟨h15.O,z11⟩ h15.so h15.k.nn (Nat.lt_of_le_of_lt vl (by decide)) fun σ16 K16=>⟨trivial,Fq.now (fl:=.ret (.bool true)) (k σ16 t11 (h15.keep K16) z11)⟩)))
end
end Mine
namespace Mine
section
variable {Γ:Cal} {Q:Fl→Lc→Hp→Prop} {ρ:Lc} {σ:Hp} {r:Ss} {q:SV→Hp→Prop} {qs:List SV→Hp→Prop} {a b:E} {es:Es}
theorem P.not (h:wpE Γ a ρ (fun v σ=>on v.asBool fun b=>q (.bool !b) σ) σ):wpE Γ (.not a) ρ q σ:=h
theorem P.asgTup {xs:List Nat} (h:wpEs Γ es ρ (fun vs σ=>vs.length = xs.length∧wpSs Γ r Q (setMany xs vs ρ) σ) σ):wpSs Γ (.cons (.asgTup xs es) r) Q ρ σ:=h
theorem P.list (h:wpEs Γ es ρ (fun vs σ=>vs.length < 1000∧newO (.list vs) q σ) σ):wpE Γ (.list es) ρ q σ:=h
theorem P.given (h:∀ is:List Int,is.length ≤ 63→newO (.list (is.map .int)) q σ):wpE Γ .given ρ q σ:=h
theorem P.newTree (h:newO (.tree ⟨.none,0⟩) q σ):wpE Γ .newTree ρ q σ:=h
theorem P.emptyDict (h:newO (.dict []) q σ):wpE Γ .emptyDict ρ q σ:=h
theorem P.nil (h:qs [] σ):wpEs Γ .nil ρ qs σ:=h
theorem P.forRange {x:Nat} {body:Ss} (h:wpE Γ a ρ (fun v σ=>on v.asInt fun n=>0 ≤ n∧n < 1000∧forGo x (fun K ρ σ=>wpSs Γ body K ρ σ) (fun _=>True) ((List.range n.toNat).map fun (i:Nat)=>SV.int (i:Int)) (Kn Γ r Q) ρ σ) σ):wpSs Γ (.cons (.forRange x a body) r) Q ρ σ:=h
end
noncomputable def absI (i:Int):Int:=if i < 0 then -i else i
noncomputable abbrev lwρ (dk tr nl od:Nat) (x:Option SV):Lc:=[none,some (.ref dk),some (.ref tr),some (.ref nl),some (.ref od),x,none]
theorem law_start {Q:Fl→Lc→Hp→Prop} (k:∀ σ dk tr nl od,LW σ dk tr nl od 0 [] [] [] .nil→W 11 b_lawR Q (lwρ dk tr nl od none) σ):wpSs (wpFn fnD 12) b_law Q (List.replicate 7 none) (fun _=>none):=by
  refine P.asgTup (P.cons (P.list (P.cons (P.comp (P.given fun is hz l1 h1=>?_)))))
  have q1:upd (fun _=>none) l1 (.list (is.map .int)) l1 = some (.list (is.map SV.int)):=upd_same ..
  generalize upd (fun _=>none) l1 (.list (is.map .int)) = σ1 at *
  refine ⟨l1,rfl,_,listAt_ref q1,by rw [List.length_map]; exact Nat.lt_of_le_of_lt hz (by decide),compGo_pure (f:=fun _=>true) (e:=fun v=>match v with | .int i=>.int (absI i) | v=>v) q1 (fun _ _ _ h=>h) (fun v hv _ K hK=>?_) _ [] (fun _ h=>h) (by rw [List.length_map]; show 0 + _ < 1000; omega) fun da hda=>?_⟩
  · obtain ⟨i,_,rfl⟩:=List.mem_map.mp hv
    exact ⟨_,rfl,i,rfl,hK⟩
  rw [show (is.map SV.int).filter (fun _=>true) = is.map SV.int from List.filter_eq_self.mpr fun _ _=>rfl,List.map_map,List.nil_append]
  have q2:upd σ1 da (.list (is.map ((fun v=>match v with | .int i=>.int (absI i) | v=>v) ∘ SV.int))) da = some (.list ((is.map absI).map SV.int)):=(upd_same ..).trans (by rw [List.map_map]; rfl)
  generalize upd σ1 da (.list (is.map ((fun v=>match v with | .int i=>.int (absI i) | v=>v) ∘ SV.int))) = σ2 at *
  refine ⟨by show 2 < 1000; decide,fun dk hdk=>?_⟩
  have K3:Keep [] σ2 (upd σ2 dk (.list [.ref da,.int ((0:Nat):Int)])):=Keep.new hdk
  have q3:upd σ2 dk (.list [.ref da,.int ((0:Nat):Int)]) dk = _:=upd_same ..
  show wpEs (wpFn fnD 12) _ _ _ (upd σ2 dk (.list [.ref da,.int ((0:Nat):Int)]))
  generalize upd σ2 dk (.list [.ref da,.int ((0:Nat):Int)]) = σ3 at *
  refine P.cons (P.newTree fun tr htr=>?_)
  have K4:Keep [] σ3 (upd σ3 tr (.tree ⟨none,0⟩)):=Keep.new htr
  have q4:upd σ3 tr (.tree ⟨none,0⟩) tr = _:=upd_same ..
  generalize upd σ3 tr (.tree ⟨none,0⟩) = σ4 at *
  refine P.cons (P.list (P.nil ⟨by show 0 < 1000; decide,fun nl hnl=>?_⟩))
  have K5:Keep [] σ4 (upd σ4 nl (.list [])):=Keep.new hnl
  have q5:upd σ4 nl (.list []) nl = _:=upd_same ..
  generalize upd σ4 nl (.list []) = σ5 at *
  refine P.cons (P.emptyDict fun od hod=>?_)
  have K6:Keep [] σ5 (upd σ5 od (.dict [])):=Keep.new hod
  have q6:upd σ5 od (.dict []) od = _:=upd_same ..
  generalize upd σ5 od (.dict []) = σ6 at *
  have up:∀ {z o σ σ'},Keep [] σ σ'→σ z = some o→σ' z = some o:=fun K e=>K _ _ (fun q=>nomatch q) e
  refine ⟨rfl,k σ6 dk tr nl od ⟨⟨⟨da,is.map absI,up ((K4.trans K5).trans K6) q3,up (((K3.trans K4).trans K5).trans K6) q2,by rw [List.length_map]; exact hz,fun q=>?_,fun q=>?_⟩,up K6 q5,fun q=>?_,q6,fun _ h=>nomatch h⟩,⟨.refl _,List.nodup_nil,(fun _ h=>nomatch h),(fun _ h=>nomatch h),Nat.le_refl _⟩,⟨up (K5.trans K6) q4,trivial,List.nodup_cons.mpr ⟨(fun h=>nomatch h),List.nodup_nil⟩,rfl⟩,⟨⟨0,rfl⟩,trivial,rfl,trivial⟩,List.Pairwise.nil,Nat.zero_le _⟩⟩
  · rw [← q,q2] at hdk; cases hdk
  · rw [← q,up (K3.trans K4) q2] at hnl; cases hnl
  · rw [q,up K4 q3] at hnl; cases hnl
inductive LawI (dk tr nl od:Nat) (rest:List SV) (ρ:Lc) (σ:Hp):Prop
  | mk (x:Option SV) (cc:Nat) (NS:List SV) (L:List (En × Nat)) (V:List En) (t:T) (e:ρ = lwρ dk tr nl od x) (h:LW σ dk tr nl od cc NS L V t) (z:t.Z) (b1:NS.length + rest.length ≤ 10) (b2:cc + 8 * rest.length ≤ 81)
theorem law_rest {σ:Hp} {dk tr nl od:Nat} (h:LW σ dk tr nl od 0 [] [] [] .nil):W 11 b_lawR (fun fl _ _=>fl = .ret (.bool true)) (lwρ dk tr nl od none) σ:=by
  refine P.forRange (P.bin (ev_ok (n:=11) (e:=.int 2) (v:=.int 2) rfl (E.draw (n:=10) (many:=9) h.r rfl (by decide) (by omega) fun x σ1 x0 x1 r1 f1=>⟨2,rfl,x,rfl,2 + x,rfl,2 + x,rfl,by omega,by omega,?_⟩)))
  have h1:=h.draw r1 f1
  refine forGo_rule (LawI dk tr nl od) ?_ ?_ _ _ _ ⟨none,1,[],[],[],.nil,rfl,h1,trivial,?_,?_⟩
  · rintro v rest ρ σ2 J ⟨x,cc,NS,L,V,t,rfl,h2,z2,b1,b2⟩ hJ
    rw [List.length_cons] at b1 b2
    show W 11 _ _ (lwρ dk tr nl od (some v)) σ2
    refine R.call (n:=11) (vs:=[.ref dk,.ref tr,.ref nl,.ref od]) rfl (done_ok (n:=0) h2 z2 (by omega) (by omega) fun σ3 cc3 NS3 L3 V3 t3 h3 c3 l3=>?_)
    refine P.ite (P.not (P.call (n:=11) (vs:=[.ref dk,.ref tr,.ref od]) rfl (isRight_ok (n:=5) h3 (by omega) fun σ4 t4 h4 z4=>⟨true,rfl,false,rfl,?_⟩)))
    exact ⟨trivial,hJ _ σ4 ⟨some v,cc3 + 2,NS3,L3,V3,t4,rfl,h4,z4,by omega,by omega⟩⟩
  · rintro ρ σ2 ⟨x,cc,NS,L,V,t,rfl,h2,z2,b1,b2⟩
    exact R.ret (n:=11) (v:=.bool true) rfl rfl
  · rw [List.length_map,List.length_range]; show 0 + _ ≤ 10; omega
  · rw [List.length_map,List.length_range]; omega
theorem plainLaw:wpSs (wpFn fnD 12) b_law (fun fl _ _=>fl = .ret (.bool true)) (List.replicate 7 none) (fun _=>none):=law_start fun _ _ _ _ _ h=>law_rest h
end Mine
theorem PySem.Challenge.cw_np0068_01_holds : PySem.Challenge.rw_np0068_01.Holds :=
  Mine.holds_of_plain Mine.plainLaw
