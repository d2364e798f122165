import PyProof.Rows.All
import Wide.All
import OpenK.AllK
import Wide.FinOn
import Open.Row
import PyProof.StationsW
import PyProof.Rows.PlainStore
import PyProof.TupleIter
import PyProof.Seq
import PyProof.Rows.Exc
import PyProof.Rows.Frame
import PyProof.StrReplace2
import PyProof.Rows.Nodes
import PyProof.Rows.Chain
import PyProof.Rows.News
import PyProof.PureInt
import PyProof.RulesTry
import PyProof.ForAppend
import PyProof.Rows.Catch
import PyProof.ExcFactsAll.ValueError
import PyProof.ExcAttrAll.ValueError
import PyProof.Rows.CatchBare
import PyProof.Rows.BootFacts
import PyProof.Rows.TupAssign
import KE.KBytesWalk
import PyProof.WalksMore
import PyProof.ForRange
import PyProof.CompUse
import KE.KxBytes
import KE.BytesMulAny
import KE.KIsBytes
import KE.KTypeOf
import KE.BytesMake
import PyProof.TypeOfCall
import PyProof.Rows.Range3
import PyProof.CompFree
import PyProof.Cells
import PySem.Challenge.RW_sx_r152_2
set_option Elab.async false
set_option maxRecDepth 100000
set_option linter.all false
namespace Mine
open PySem
inductive PV where
 | none
 | bool (b:Bool)
 | int (i:Int)
 | flt (x:UInt64)
 | str (s:List Nat)
 | bytes (l:List Int)
 | tuple (l:List PV)
 | list (l:List PV)
 | dict0
 deriving Inhabited
inductive Res (α:Type) where
 | ok (a:α)
 | exc
 | stuck
noncomputable def Res.bind {α β:Type}:Res α→(α→Res β)→Res β
 | .ok a,f=>f a
 | .exc,_=>.exc
 | .stuck,_=>.stuck
noncomputable def lim:Nat:=1048576
inductive BOp | add | sub | mul | fdiv | mod
inductive COp | eq | ne | lt | le | gt | ge | is_ | isNot | in_ | notIn
inductive Ty | bytes | int | list | tuple
noncomputable def and2:Option Bool→Option Bool→Option Bool
 | some x,some y=>some (x && y)
 | some _,none=>none
 | none,_=>none
mutual
noncomputable def eqD:Nat→PV→PV→Option Bool
 | _,.none,y=>@PV.casesOn (fun _=>Option Bool) y (some true) (fun _=>none) (fun _=>none) (fun _=>none) (fun _=>none) (fun _=>none) (fun _=>none) (fun _=>none) none
 | _,.bool a,y=>@PV.casesOn (fun _=>Option Bool) y none (fun b=>some (a == b)) (fun _=>none) (fun _=>none) (fun _=>none) (fun _=>none) (fun _=>none) (fun _=>none) none
 | _,.int a,y=>@PV.casesOn (fun _=>Option Bool) y none (fun _=>none) (fun b=>some (a == b)) (fun _=>none) (fun _=>none) (fun _=>none) (fun _=>none) (fun _=>none) none
 | _,.flt a,y=>@PV.casesOn (fun _=>Option Bool) y none (fun _=>none) (fun _=>none) (fun b=>if a == 0 && b == 0 then some true else none) (fun _=>none) (fun _=>none) (fun _=>none) (fun _=>none) none
 | _,.str a,y=>@PV.casesOn (fun _=>Option Bool) y none (fun _=>none) (fun _=>none) (fun _=>none) (fun b=>some (a == b)) (fun _=>none) (fun _=>none) (fun _=>none) none
 | _,.bytes a,y=>@PV.casesOn (fun _=>Option Bool) y (some false) (fun _=>none) (fun _=>none) (fun _=>none) (fun _=>some false) (fun b=>some (a == b)) (fun _=>none) (fun _=>none) none
 | n,.tuple a,y=>@PV.casesOn (fun _=>Option Bool) y none (fun _=>none) (fun _=>none) (fun _=>none) (fun _=>some false) (fun _=>none) (fun b=>match n with | 0=>none | n+1=>eqDs n a b) (fun _=>none) none
 | n,.list a,y=>@PV.casesOn (fun _=>Option Bool) y none (fun _=>none) (fun _=>none) (fun _=>none) (fun _=>none) (fun _=>none) (fun _=>none) (fun b=>match n with | 0=>none | n+1=>if a.length == b.length then eqDs n a b else some false) none
 | _,.dict0,y=>@PV.casesOn (fun _=>Option Bool) y none (fun _=>none) (fun _=>none) (fun _=>none) (fun _=>none) (fun _=>none) (fun _=>none) (fun _=>none) (some true)
noncomputable def eqDs:Nat→List PV→List PV→Option Bool
 | _,[],y=>match y with | []=>some true | _::_=>some false
 | n,a::r,y=>match y with | []=>some false | b::t=>and2 (eqD n a b) (eqDs n r t)
end
noncomputable def onI {α:Type} (y:PV) (f:Int→Res α):Res α:=@PV.casesOn (fun _=>Res α) y .stuck (fun _=>.stuck) f (fun _=>.stuck) (fun _=>.stuck) (fun _=>.stuck) (fun _=>.stuck) (fun _=>.stuck) .stuck
noncomputable def onB {α:Type} (y:PV) (f:List Int→Res α):Res α:=@PV.casesOn (fun _=>Res α) y .stuck (fun _=>.stuck) (fun _=>.stuck) (fun _=>.stuck) (fun _=>.stuck) f (fun _=>.stuck) (fun _=>.stuck) .stuck
noncomputable def onT {α:Type} (y:PV) (f:List PV→Res α):Res α:=@PV.casesOn (fun _=>Res α) y .stuck (fun _=>.stuck) (fun _=>.stuck) (fun _=>.stuck) (fun _=>.stuck) (fun _=>.stuck) f (fun _=>.stuck) .stuck
noncomputable def onL {α:Type} (y:PV) (f:List PV→Res α):Res α:=@PV.casesOn (fun _=>Res α) y .stuck (fun _=>.stuck) (fun _=>.stuck) (fun _=>.stuck) (fun _=>.stuck) (fun _=>.stuck) (fun _=>.stuck) f .stuck
noncomputable def onN {α:Type} (y:PV) (r:Res α):Res α:=@PV.casesOn (fun _=>Res α) y r (fun _=>.stuck) (fun _=>.stuck) (fun _=>.stuck) (fun _=>.stuck) (fun _=>.stuck) (fun _=>.stuck) (fun _=>.stuck) .stuck
section
variable {α:Type} {Z:Res α→Prop} {P:PV→Prop} (hz:Z .stuck→False) {y:PV}
include hz
theorem onI_k {f:Int→Res α} (h:Z (onI y f)) (k:∀ i,Z (f i)→P (.int i)):P y:=@PV.casesOn (fun y=>Z (onI y f)→P y) y (fun h=>(hz h).elim) (fun _ h=>(hz h).elim) k (fun _ h=>(hz h).elim) (fun _ h=>(hz h).elim) (fun _ h=>(hz h).elim) (fun _ h=>(hz h).elim) (fun _ h=>(hz h).elim) (fun h=>(hz h).elim) h
theorem onB_k {f:List Int→Res α} (h:Z (onB y f)) (k:∀ i,Z (f i)→P (.bytes i)):P y:=@PV.casesOn (fun y=>Z (onB y f)→P y) y (fun h=>(hz h).elim) (fun _ h=>(hz h).elim) (fun _ h=>(hz h).elim) (fun _ h=>(hz h).elim) (fun _ h=>(hz h).elim) k (fun _ h=>(hz h).elim) (fun _ h=>(hz h).elim) (fun h=>(hz h).elim) h
theorem onT_k {f:List PV→Res α} (h:Z (onT y f)) (k:∀ i,Z (f i)→P (.tuple i)):P y:=@PV.casesOn (fun y=>Z (onT y f)→P y) y (fun h=>(hz h).elim) (fun _ h=>(hz h).elim) (fun _ h=>(hz h).elim) (fun _ h=>(hz h).elim) (fun _ h=>(hz h).elim) (fun _ h=>(hz h).elim) k (fun _ h=>(hz h).elim) (fun h=>(hz h).elim) h
theorem onL_k {f:List PV→Res α} (h:Z (onL y f)) (k:∀ i,Z (f i)→P (.list i)):P y:=@PV.casesOn (fun y=>Z (onL y f)→P y) y (fun h=>(hz h).elim) (fun _ h=>(hz h).elim) (fun _ h=>(hz h).elim) (fun _ h=>(hz h).elim) (fun _ h=>(hz h).elim) (fun _ h=>(hz h).elim) (fun _ h=>(hz h).elim) k (fun h=>(hz h).elim) h
theorem onN_k {r:Res α} (h:Z (onN y r)) (k:Z r→P .none):P y:=@PV.casesOn (fun y=>Z (onN y r)→P y) y k (fun _ h=>(hz h).elim) (fun _ h=>(hz h).elim) (fun _ h=>(hz h).elim) (fun _ h=>(hz h).elim) (fun _ h=>(hz h).elim) (fun _ h=>(hz h).elim) (fun _ h=>(hz h).elim) (fun h=>(hz h).elim) h
theorem when_k {c:Prop} [Decidable c] {r:Res α} {p:Prop} (h:Z (if c then r else .stuck)) (k:c→Z r→p):p:=by
 by_cases hc:c
 ·rw [if_pos hc] at h; exact k hc h
 ·rw [if_neg hc] at h; exact (hz h).elim
end
noncomputable def addP (x y:PV):Res PV:=@PV.casesOn (fun _=>Res PV) x .stuck (fun _=>.stuck) (fun a=>onI y fun b=>.ok (.int (a+b))) (fun _=>.stuck) (fun _=>.stuck)
 (fun a=>onB y fun b=>if a.length+b.length≤lim then .ok (.bytes (a++b)) else .stuck) (fun a=>onT y fun b=>if a.length+b.length≤lim then .ok (.tuple (a++b)) else .stuck)
 (fun a=>onL y fun b=>if a.length+b.length≤lim then .ok (.list (a++b)) else .stuck) .stuck
noncomputable def mulP (x y:PV):Res PV:=@PV.casesOn (fun _=>Res PV) x .stuck (fun _=>.stuck) (fun a=>onI y fun b=>if a.natAbs≤4294967296∧b.natAbs≤4294967296 then .ok (.int (a * b)) else .stuck) (fun _=>.stuck) (fun _=>.stuck)
 (fun a=>onI y fun n=>if a≠[]∧a.length≤16∧-(lim:Int)≤n∧n≤lim∧a.length * n.toNat≤lim then .ok (.bytes (List.replicate n.toNat a).flatten) else .stuck) (fun _=>.stuck) (fun _=>.stuck) .stuck
noncomputable def binP:BOp→PV→PV→Res PV
 | .add,x,y=>addP x y
 | .sub,x,y=>onI x fun a=>onI y fun b=>.ok (.int (a - b))
 | .mul,x,y=>mulP x y
 | .fdiv,x,y=>onI x fun a=>onI y fun b=>if 0<b∧b<1073741824 then .ok (.int (a / b)) else .stuck
 | .mod,x,y=>onI x fun a=>onI y fun b=>if 0<b then .ok (.int (a % b)) else .stuck
noncomputable def augP:BOp→PV→PV→Res PV
 | .add,x,y=>onI x fun a=>onI y fun b=>.ok (.int (a+b))
 | .sub,_,_=>.stuck
 | .mul,_,_=>.stuck
 | .fdiv,_,_=>.stuck
 | .mod,_,_=>.stuck
noncomputable def ofO:Option Bool→Res Bool
 | some b=>.ok b
 | none=>.stuck
noncomputable def memD (n:Nat) (x:PV):List PV→Option Bool
 | []=>some false
 | y::r=>match eqD n y x,memD n x r with
  | some a,some b=>some (a || b)
  | _,_=>none
noncomputable def isNone:PV→Bool
 | .none=>true
 | _=>false
noncomputable def neOk:PV→PV→Bool
 | .none,.none=>true
 | .bool _,.bool _=>true
 | .int _,.int _=>true
 | .str _,.str _=>true
 | .bytes _,.str _=>true
 | .bytes _,.bytes _=>true
 | .tuple _,.str _=>true
 | .tuple _,.tuple _=>true
 | .list _,.list _=>true
 | _,_=>false
noncomputable def inP (f:Option Bool→Option Bool) (x y:PV):Res Bool:=@PV.casesOn (fun _=>Res Bool) y .stuck (fun _=>.stuck) (fun _=>.stuck) (fun _=>.stuck) (fun _=>.stuck)
 (fun l=>onI x fun n=>if 0≤n∧n<256 then ofO (f (some (decide (n∈l)))) else .stuck) (fun l=>ofO (f (memD 12 x l))) (fun l=>ofO (f (memD 12 x l))) .stuck
noncomputable def cmpP:COp→PV→PV→Res Bool
 | .eq,a,b=>ofO (eqD 12 a b)
 | .ne,a,b=>if neOk a b then ofO ((eqD 12 a b).map (!·)) else .stuck
 | .lt,x,y=>onI x fun a=>onI y fun b=>.ok (decide (a<b))
 | .le,x,y=>onI x fun a=>onI y fun b=>.ok (decide (a≤b))
 | .gt,x,y=>onI x fun a=>onI y fun b=>.ok (decide (b<a))
 | .ge,x,y=>onI x fun a=>onI y fun b=>.ok (decide (b≤a))
 | .is_,a,y=>onN y (.ok (isNone a))
 | .isNot,a,y=>onN y (.ok (!isNone a))
 | .in_,x,y=>inP id x y
 | .notIn,x,y=>inP (·.map (!·)) x y
noncomputable def truP:PV→Res Bool
 | .none=>.ok false
 | .bool b=>.ok b
 | .int i=>.ok (i != 0)
 | _=>.stuck
noncomputable def ofI:Option PV→Res PV
 | some v=>.ok v
 | none=>.stuck
noncomputable def idxP:PV→PV→Res PV
 | .bytes l,.int i=>if 0≤i then ofI (l[i.toNat]?.map PV.int) else .stuck
 | .tuple l,.int i=>if 0≤i then ofI l[i.toNat]? else if -(l.length:Int)≤i then ofI l[((l.length:Int)+i).toNat]? else .stuck
 | .list l,.int i=>if 0≤i then ofI l[i.toNat]? else .stuck
 | _,_=>.stuck
noncomputable def cutL {α:Type} (l:List α) (lo hi:Option Int):List α :=
 (match hi with | some h=>l.take h.toNat | none=>l).drop (match lo with | some a=>a.toNat | none=>0)
noncomputable def endP:Option PV→Res (Option Int)
 | none=>.ok none
 | some (.int i)=>if 0≤i then .ok (some i) else .stuck
 | _=>.stuck
noncomputable def slcP (a:PV) (lo hi:Option Int):Res PV :=
 match a with
 | .bytes l=>.ok (.bytes (cutL l lo hi))
 | .tuple l=>match lo,hi with
  | none,some h=>if h.toNat<l.length then .ok (.tuple (l.take h.toNat)) else .stuck
  | _,_=>.stuck
 | .list l=>.ok (.list (cutL l lo hi))
 | _=>.stuck
noncomputable def lenP:PV→Res PV
 | .bytes l=>.ok (.int l.length)
 | .tuple l=>.ok (.int l.length)
 | .list l=>.ok (.int l.length)
 | _=>.stuck
noncomputable def isP:PV→Ty→Bool
 | .bytes _,.bytes=>true
 | .int _,.int=>true
 | .list _,.list=>true
 | .tuple _,.tuple=>true
 | _,_=>false
noncomputable def isBool:PV→Bool
 | .bool _=>true
 | _=>false
noncomputable def intsOf:List PV→Option (List Int)
 | []=>some []
 | .int i::r=>(intsOf r).map (i::·)
 | _::_=>none
noncomputable def bytesP:PV→Res PV
 | .list l=>match intsOf l with
  | some ns=>if ∀ n∈ns,0≤n∧n<256 then .ok (.bytes ns) else .stuck
  | none=>.stuck
 | _=>.stuck
noncomputable def chunksOf:List PV→Option (List (List Int))
 | []=>some []
 | .bytes b::r=>(chunksOf r).map (b::·)
 | _::_=>none
noncomputable def glue (sep:List Int):List (List Int)→List Int
 | []=>[]
 | [a]=>a
 | a::b::r=>a++sep++glue sep (b::r)
noncomputable def joinP (sep:PV) (a:PV):Res PV :=
 match sep,a with
 | .bytes s,.list l=>match chunksOf l with
  | some cs=>if l.length≤lim∧(glue s cs).length≤lim then .ok (.bytes (glue s cs)) else .stuck
  | none=>.stuck
 | _,_=>.stuck
set_option genInjectivity false in
set_option genSizeOfSpec false in
inductive CE where
 | lit (v:PV)
 | neg (n:Nat)
 | var (i:Nat)
 | glob (i:Nat)
 | strFlt (s:List Nat) (x:UInt64)
 | tup (l:List CE)
 | lst (l:List CE)
 | dict0
 | bin (o:BOp) (a b:CE)
 | cmp (o:COp) (a b:CE)
 | cmp2 (o p:COp) (a b c:CE)
 | and_ (l:List CE)
 | or_ (l:List CE)
 | not_ (a:CE)
 | ite (c a b:CE)
 | idx (a i:CE)
 | slc (a:CE) (lo hi:Option CE)
 | call (f:Nat) (args:List CE)
 | len (a:CE)
 | isin (a:CE) (ts:List Ty)
 | isin1 (a:CE) (t:Ty)
 | mkBytes (a:CE)
 | typeIs (a:CE) (t:Ty)
 | join (sep a:CE)
 | comp (elt src:CE) (cond:Option CE)
inductive Slot where
 | unset
 | val (v:PV)
 | own (l:List PV)
set_option genInjectivity false in
set_option genSizeOfSpec false in
inductive CS where
 | frz (i:Nat)
 | assign (i:Nat) (e:CE)
 | own (i:Nat) (l:List CE)
 | assignT (rev:Bool) (is:List Nat) (e:CE)
 | aug (i:Nat) (o:BOp) (e:CE)
 | app (i:Nat) (e:CE)
 | expr (e:CE)
 | ret (e:CE)
 | if_ (c:CE) (a b:List CS)
 | while_ (c:CE) (b:List CS)
 | for_ (i:Nat) (src:CE) (b:List CS)
 | forT (is:List Nat) (src:CE) (b:List CS)
 | forR (i:Nat) (n:CE) (b:List CS)
 | raise_
 | try_ (i:Nat) (e:CE) (j:Nat) (v:PV)
 | brk
inductive Fl where
 | next
 | brk
 | ret (v:PV)
noncomputable def getS:List Slot→Nat→Slot
 | [],_=>.unset
 | s::_,0=>s
 | _::r,n+1=>getS r n
noncomputable def putS:List Slot→Nat→Slot→List Slot
 | [],_,_=>[]
 | _::r,0,v=>v::r
 | s::r,n+1,v=>s::putS r n v
noncomputable def itemsP:PV→Res (List PV)
 | .bytes l=>.ok (l.map PV.int)
 | .tuple l=>.ok l
 | .list l=>.ok l
 | _=>.stuck
noncomputable def putsS:List Slot→List Nat→List PV→List Slot
 | ρ,i::r,v::t=>putsS (putS ρ i (.val v)) r t
 | ρ,_,_=>ρ
noncomputable def unpackP (n:Nat):PV→Res (List PV)
 | .tuple l=>if l.length=n then .ok l else .stuck
 | _=>.stuck
noncomputable def mapR {α β:Type} (f:α→Res β):List α→Res (List β)
 | []=>.ok []
 | a::r=>(f a).bind fun b=>(mapR f r).bind fun bs=>.ok (b::bs)
section
variable (F:Nat→List PV→Res PV) (G:Nat→Res PV)
mutual
noncomputable def evE:CE→List Slot→Res PV
 | .lit v,_=>.ok v
 | .neg n,_=>.ok (.int (-(n:Int)))
 | .var i,ρ=>match getS ρ i with
  | .val v=>.ok v
  | _=>.stuck
 | .glob i,_=>G i
 | .strFlt s x,_=>.ok (.tuple [.str s,.flt x])
 | .tup l,ρ=>(evEs l ρ).bind fun vs=>if vs.length≤lim then .ok (.tuple vs) else .stuck
 | .lst l,ρ=>(evEs l ρ).bind fun vs=>if vs.length≤lim then .ok (.list vs) else .stuck
 | .dict0,_=>.ok .dict0
 | .bin o a b,ρ=>(evE a ρ).bind fun x=>(evE b ρ).bind fun y=>binP o x y
 | .cmp o a b,ρ=>(evE a ρ).bind fun x=>(evE b ρ).bind fun y=>(cmpP o x y).bind fun r=>.ok (.bool r)
 | .cmp2 o p a b c,ρ=>(evE a ρ).bind fun x=>(evE b ρ).bind fun y=>(cmpP o x y).bind fun r =>
   if r then (evE c ρ).bind fun z=>(cmpP p y z).bind fun q=>.ok (.bool q) else .ok (.bool false)
 | .and_ l,ρ=>evAnd l ρ
 | .or_ l,ρ=>evOr l ρ
 | .not_ a,ρ=>(evE a ρ).bind fun x=>(truP x).bind fun b=>.ok (.bool (!b))
 | .ite c a b,ρ=>(evE c ρ).bind fun x=>(truP x).bind fun t=>if t then evE a ρ else evE b ρ
 | .idx a i,ρ=>(evE a ρ).bind fun x=>(evE i ρ).bind fun y=>idxP x y
 | .slc a lo hi,ρ=>(evE a ρ).bind fun x=>(evO lo ρ).bind fun l=>(evO hi ρ).bind fun h =>
   (endP l).bind fun l'=>(endP h).bind fun h'=>slcP x l' h'
 | .call f args,ρ=>(evEs args ρ).bind fun vs=>F f vs
 | .len (.var i),ρ=>match getS ρ i with
  | .val v=>lenP v
  | .own l=>.ok (.int l.length)
  | .unset=>.stuck
 | .len a,ρ=>(evE a ρ).bind lenP
 | .isin a ts,ρ=>(evE a ρ).bind fun x=>if isBool x then .stuck else .ok (.bool (ts.any (isP x)))
 | .isin1 a t,ρ=>(evE a ρ).bind fun x=>if isBool x then .stuck else .ok (.bool (isP x t))
 | .mkBytes a,ρ=>(evE a ρ).bind bytesP
 | .typeIs a t,ρ=>(evE a ρ).bind fun x=>.ok (.bool (isP x t))
 | .join s a,ρ=>(evE s ρ).bind fun x=>(evE a ρ).bind fun y=>joinP x y
 | .comp elt src none,ρ=>(evE src ρ).bind fun x=>(itemsP x).bind fun l =>
   (mapR (fun v=>evE elt [.val v]) l).bind fun vs=>.ok (.list vs)
 | .comp _ _ (some _),_=>.stuck
noncomputable def evO:Option CE→List Slot→Res (Option PV)
 | none,_=>.ok none
 | some e,ρ=>(evE e ρ).bind fun v=>.ok (some v)
noncomputable def evEs:List CE→List Slot→Res (List PV)
 | [],_=>.ok []
 | e::r,ρ=>(evE e ρ).bind fun v=>(evEs r ρ).bind fun vs=>.ok (v::vs)
noncomputable def evAnd:List CE→List Slot→Res PV
 | [],_=>.stuck
 | [a],ρ=>evE a ρ
 | a::b::r,ρ=>(evE a ρ).bind fun x=>(truP x).bind fun t=>if t then evAnd (b::r) ρ else .ok x
noncomputable def evOr:List CE→List Slot→Res PV
 | [],_=>.stuck
 | [a],ρ=>evE a ρ
 | a::b::r,ρ=>(evE a ρ).bind fun x=>(truP x).bind fun t=>if t then .ok x else evOr (b::r) ρ
end
noncomputable def evB (c:CE) (ρ:List Slot):Res Bool:=(evE F G c ρ).bind truP
noncomputable def whileN (t:List Slot→Res Bool) (b:List Slot→Res (Fl × List Slot)):Nat→List Slot→Res (Fl × List Slot)
 | 0,_=>.stuck
 | n+1,ρ=>(t ρ).bind fun c=>if c then
   match b ρ with
   | .ok (.next,ρ')=>whileN t b n ρ'
   | .ok (.brk,ρ')=>.ok (.next,ρ')
   | .ok (.ret v,ρ')=>.ok (.ret v,ρ')
   | .exc=>.exc
   | .stuck=>.stuck
  else .ok (.next,ρ)
noncomputable def forN (set:List Slot→PV→Res (List Slot)) (b:List Slot→Res (Fl × List Slot)):List PV→List Slot→Res (Fl × List Slot)
 | [],ρ=>.ok (.next,ρ)
 | v::r,ρ=>(set ρ v).bind fun ρ' =>
   match b ρ' with
   | .ok (.next,ρ'')=>forN set b r ρ''
   | .ok (.brk,ρ'')=>.ok (.next,ρ'')
   | .ok (.ret v,ρ'')=>.ok (.ret v,ρ'')
   | .exc=>.exc
   | .stuck=>.stuck
noncomputable def rangeL (n:Int):List PV:=(List.range n.toNat).map fun (k:Nat)=>PV.int (k:Int)
variable (W:Nat)
mutual
noncomputable def evS:CS→List Slot→Res (Fl × List Slot)
 | .frz i,ρ=>match getS ρ i with
  | .own l=>.ok (.next,putS ρ i (.val (.list l)))
  | _=>.ok (.next,ρ)
 | .assign i e,ρ=>(evE F G e ρ).bind fun v=>.ok (.next,putS ρ i (.val v))
 | .own i l,ρ=>(evEs F G l ρ).bind fun vs=>if vs.length≤lim then .ok (.next,putS ρ i (.own vs)) else .stuck
 | .assignT rev is e,ρ=>(evE F G e ρ).bind fun v=>(unpackP is.length v).bind fun vs=>.ok (.next,if rev then putsS ρ is.reverse vs.reverse else putsS ρ is vs)
 | .aug i o e,ρ=>match getS ρ i with
  | .val x=>(evE F G e ρ).bind fun y=>(augP o x y).bind fun v=>.ok (.next,putS ρ i (.val v))
  | _=>.stuck
 | .app i e,ρ=>match getS ρ i with
  | .own l=>(evE F G e ρ).bind fun v=>if l.length<lim then .ok (.next,putS ρ i (.own (l++[v]))) else .stuck
  | _=>.stuck
 | .expr e,ρ=>(evE F G e ρ).bind fun v=>if isNone v then .ok (.next,ρ) else .stuck
 | .ret e,ρ=>(evE F G e ρ).bind fun v=>.ok (.ret v,ρ)
 | .if_ c a b,ρ=>(evB F G c ρ).bind fun t=>if t then evSs a ρ else evSs b ρ
 | .while_ c b,ρ=>whileN (fun ρ=>evB F G c ρ) (fun ρ=>evSs b ρ) W ρ
 | .for_ i src b,ρ=>(evE F G src ρ).bind fun x=>(itemsP x).bind fun l =>
   forN (fun ρ v=>.ok (putS ρ i (.val v))) (fun ρ=>evSs b ρ) l ρ
 | .forT is src b,ρ=>(evE F G src ρ).bind fun x=>(itemsP x).bind fun l =>
   forN (fun ρ v=>(unpackP is.length v).bind fun vs=>.ok (putsS ρ is vs)) (fun ρ=>evSs b ρ) l ρ
 | .forR i n b,ρ=>(evE F G n ρ).bind fun x=>match x with
  | .int k=>if -(lim:Int)≤k∧k≤lim then forN (fun ρ v=>.ok (putS ρ i (.val v))) (fun ρ=>evSs b ρ) (rangeL k) ρ else .stuck
  | _=>.stuck
 | .raise_,_=>.exc
 | .try_ i e j v,ρ=>match evE F G e ρ with
  | .ok x=>.ok (.next,putS ρ i (.val x))
  | .exc=>.ok (.next,putS ρ j (.val v))
  | .stuck=>.stuck
 | .brk,ρ=>.ok (.brk,ρ)
noncomputable def evSs:List CS→List Slot→Res (Fl × List Slot)
 | [],ρ=>.ok (.next,ρ)
 | s::r,ρ=>match evS s ρ with
  | .ok (.next,ρ')=>evSs r ρ'
  | .ok (f,ρ')=>.ok (f,ρ')
  | .exc=>.exc
  | .stuck=>.stuck
end
end
inductive CF where
 | code (vars:List Str) (params:Nat) (body:List CS)
 | native (g:List PV→Res PV)
noncomputable def startS (n k:Nat) (args:List PV):List Slot:=args.map Slot.val++List.replicate (n - k) Slot.unset
noncomputable def outS:Res (Fl × List Slot)→Res PV
 | .ok (.ret v,_)=>.ok v
 | .ok (.next,_)=>.ok .none
 | .ok (.brk,_)=>.stuck
 | .exc=>.exc
 | .stuck=>.stuck
noncomputable def den (T:Nat→Option CF) (G:Nat→Res PV) (W:Nat):Nat→Nat→List PV→Res PV
 | 0,_,_=>.stuck
 | d+1,f,args=>match T f with
  | some (.code vars k body)=>if args.length=k then outS (evSs (den T G W d) G W body (startS vars.length k args)) else .stuck
  | some (.native g)=>g args
  | none=>.stuck
end Mine
namespace Mine
open PySem
noncomputable def opOf:BOp→Operator
 | .add=>.Add
 | .sub=>.Sub
 | .mul=>.Mult
 | .fdiv=>.FloorDiv
 | .mod=>.Mod
noncomputable def copOf:COp→CmpOp
 | .eq=>.Eq
 | .ne=>.NotEq
 | .lt=>.Lt
 | .le=>.LtE
 | .gt=>.Gt
 | .ge=>.GtE
 | .is_=>.Is
 | .isNot=>.IsNot
 | .in_=>.In
 | .notIn=>.NotIn
noncomputable def bopOk (op:Operator) (o:BOp):Bool:=decide (op=opOf o)
noncomputable def copOk (op:CmpOp) (o:COp):Bool:=decide (op=copOf o)
noncomputable def tyName:Ty→String
 | .bytes => "bytes"
 | .int => "int"
 | .list => "list"
 | .tuple => "tuple"
noncomputable def shortLit:PV→Bool
 | .bytes l=>decide (l.length≤1048576)
 | _=>true
structure Nm where
 names:List (Str × NameKind)
 vs:List Str
 fs:List Str
 gs:List Str
noncomputable def Nm.isGlob (N : Nm) (x : Str) : Bool := N.names.lookup x == some .globalImplicit && !(x == ("__debug__" : Str))
noncomputable def Nm.isVar (N : Nm) (x : Str) (i : Nat) : Bool := N.vs[i]? == some x && N.names.lookup x == some .local && !(x == ("__debug__" : Str))
noncomputable def Nm.isWord (N:Nm) (x:Str) (s:String):Bool:=x == Str.ofString s && N.isGlob x
noncomputable def Nm.isVarIn (_N : Nm) (sc : Scope) (x : Str) : Bool := sc.names.lookup x == some .local && !(x == ("__debug__" : Str))
noncomputable def compOk (sc:Scope):Bool :=
 sc.kind == .function && sc.names.all (fun p=>(p.2 == .local || p.2 == .globalImplicit) && (p.2 != .local || sc.names.lookup p.1 == some .local))
noncomputable def notStar (e:Expr):Bool:=@PySem.Expr.casesOn (fun _=>Bool) e (fun _ _ _=>true) (fun _ _ _=>true) (fun _ _ _ _=>true) (fun _ _ _=>true) (fun _ _ _ _=>true) (fun _ _ _ _=>true) (fun _ _ _=>true) (fun _ _ _=>true) (fun _ _ _ _=>true) (fun _ _ _ _=>true) (fun _ _ _ _ _=>true) (fun _ _ _ _=>true) (fun _ _=>true) (fun _ _=>true) (fun _ _=>true) (fun _ _ _ _=>true) (fun _ _ _ _=>true) (fun _ _ _ _=>true) (fun _ _=>true) (fun _ _ _=>true) (fun _ _ _=>true) (fun _ _ _=>true) (fun _ _=>false) (fun _ _=>true) (fun _ _=>true) (fun _ _ _=>true) (fun _ _ _ _=>true)
noncomputable def notSlice (e:Expr):Bool:=@PySem.Expr.casesOn (fun _=>Bool) e (fun _ _ _=>true) (fun _ _ _=>true) (fun _ _ _ _=>true) (fun _ _ _=>true) (fun _ _ _ _=>true) (fun _ _ _ _=>true) (fun _ _ _=>true) (fun _ _ _=>true) (fun _ _ _ _=>true) (fun _ _ _ _=>true) (fun _ _ _ _ _=>true) (fun _ _ _ _=>true) (fun _ _=>true) (fun _ _=>true) (fun _ _=>true) (fun _ _ _ _=>true) (fun _ _ _ _=>true) (fun _ _ _ _=>true) (fun _ _=>true) (fun _ _ _=>true) (fun _ _ _=>true) (fun _ _ _=>true) (fun _ _=>true) (fun _ _=>true) (fun _ _=>true) (fun _ _ _=>true) (fun _ _ _ _=>false)
noncomputable def notSet (e:Expr):Bool:=@PySem.Expr.casesOn (fun _=>Bool) e (fun _ _ _=>true) (fun _ _ _=>true) (fun _ _ _ _=>true) (fun _ _ _=>true) (fun _ _ _ _=>true) (fun _ _ _ _=>true) (fun _ _ _=>true) (fun _ _ _=>false) (fun _ _ _ _=>true) (fun _ _ _ _=>true) (fun _ _ _ _ _=>true) (fun _ _ _ _=>true) (fun _ _=>true) (fun _ _=>true) (fun _ _=>true) (fun _ _ _ _=>true) (fun _ _ _ _=>true) (fun _ _ _ _=>true) (fun _ _=>true) (fun _ _ _=>true) (fun _ _ _=>true) (fun _ _ _=>true) (fun _ _=>true) (fun _ _=>true) (fun _ _=>true) (fun _ _ _=>true) (fun _ _ _ _=>true)
theorem ff {p:Prop} (h:false=true):p:=nomatch h
theorem aL {a b:Bool} (h:(a && b)=true):a=true:=(Bool.and_eq_true_iff.1 h).1
theorem aR {a b:Bool} (h:(a && b)=true):b=true:=(Bool.and_eq_true_iff.1 h).2
noncomputable def onConstant (e:PySem.Expr) (f:Const→Nat→Pos→Bool):Bool:=@PySem.Expr.casesOn (fun _=>Bool) e (fun _ _ _=>false) (fun _ _ _=>false) (fun _ _ _ _=>false) (fun _ _ _=>false) (fun _ _ _ _=>false) (fun _ _ _ _=>false) (fun _ _ _=>false) (fun _ _ _=>false) (fun _ _ _ _=>false) (fun _ _ _ _=>false) (fun _ _ _ _ _=>false) (fun _ _ _ _=>false) (fun _ _=>false) (fun _ _=>false) (fun _ _=>false) (fun _ _ _ _=>false) (fun _ _ _ _=>false) (fun _ _ _ _=>false) (fun _ _=>false) f (fun _ _ _=>false) (fun _ _ _=>false) (fun _ _=>false) (fun _ _=>false) (fun _ _=>false) (fun _ _ _=>false) (fun _ _ _ _=>false)
theorem onConstant_k {P:PySem.Expr→Prop} {e:PySem.Expr} {f:Const→Nat→Pos→Bool} (h:onConstant e f=true) (k:∀ a0 a1 a2,f a0 a1 a2=true→P (.Constant a0 a1 a2)):P e :=
 @PySem.Expr.casesOn (fun e=>onConstant e f=true→P e) e (fun _ _ _=>ff) (fun _ _ _=>ff) (fun _ _ _ _=>ff) (fun _ _ _=>ff) (fun _ _ _ _=>ff) (fun _ _ _ _=>ff) (fun _ _ _=>ff) (fun _ _ _=>ff) (fun _ _ _ _=>ff) (fun _ _ _ _=>ff) (fun _ _ _ _ _=>ff) (fun _ _ _ _=>ff) (fun _ _=>ff) (fun _ _=>ff) (fun _ _=>ff) (fun _ _ _ _=>ff) (fun _ _ _ _=>ff) (fun _ _ _ _=>ff) (fun _ _=>ff) k (fun _ _ _=>ff) (fun _ _ _=>ff) (fun _ _=>ff) (fun _ _=>ff) (fun _ _=>ff) (fun _ _ _=>ff) (fun _ _ _ _=>ff) h
noncomputable def onUnaryOp (e:PySem.Expr) (f:UnaryOp→Expr→Pos→Bool):Bool:=@PySem.Expr.casesOn (fun _=>Bool) e (fun _ _ _=>false) (fun _ _ _=>false) (fun _ _ _ _=>false) f (fun _ _ _ _=>false) (fun _ _ _ _=>false) (fun _ _ _=>false) (fun _ _ _=>false) (fun _ _ _ _=>false) (fun _ _ _ _=>false) (fun _ _ _ _ _=>false) (fun _ _ _ _=>false) (fun _ _=>false) (fun _ _=>false) (fun _ _=>false) (fun _ _ _ _=>false) (fun _ _ _ _=>false) (fun _ _ _ _=>false) (fun _ _=>false) (fun _ _ _=>false) (fun _ _ _=>false) (fun _ _ _=>false) (fun _ _=>false) (fun _ _=>false) (fun _ _=>false) (fun _ _ _=>false) (fun _ _ _ _=>false)
theorem onUnaryOp_k {P:PySem.Expr→Prop} {e:PySem.Expr} {f:UnaryOp→Expr→Pos→Bool} (h:onUnaryOp e f=true) (k:∀ a0 a1 a2,f a0 a1 a2=true→P (.UnaryOp a0 a1 a2)):P e :=
 @PySem.Expr.casesOn (fun e=>onUnaryOp e f=true→P e) e (fun _ _ _=>ff) (fun _ _ _=>ff) (fun _ _ _ _=>ff) k (fun _ _ _ _=>ff) (fun _ _ _ _=>ff) (fun _ _ _=>ff) (fun _ _ _=>ff) (fun _ _ _ _=>ff) (fun _ _ _ _=>ff) (fun _ _ _ _ _=>ff) (fun _ _ _ _=>ff) (fun _ _=>ff) (fun _ _=>ff) (fun _ _=>ff) (fun _ _ _ _=>ff) (fun _ _ _ _=>ff) (fun _ _ _ _=>ff) (fun _ _=>ff) (fun _ _ _=>ff) (fun _ _ _=>ff) (fun _ _ _=>ff) (fun _ _=>ff) (fun _ _=>ff) (fun _ _=>ff) (fun _ _ _=>ff) (fun _ _ _ _=>ff) h
noncomputable def onName (e:PySem.Expr) (f:Str→Pos→Bool):Bool:=@PySem.Expr.casesOn (fun _=>Bool) e (fun _ _ _=>false) (fun _ _ _=>false) (fun _ _ _ _=>false) (fun _ _ _=>false) (fun _ _ _ _=>false) (fun _ _ _ _=>false) (fun _ _ _=>false) (fun _ _ _=>false) (fun _ _ _ _=>false) (fun _ _ _ _=>false) (fun _ _ _ _ _=>false) (fun _ _ _ _=>false) (fun _ _=>false) (fun _ _=>false) (fun _ _=>false) (fun _ _ _ _=>false) (fun _ _ _ _=>false) (fun _ _ _ _=>false) (fun _ _=>false) (fun _ _ _=>false) (fun _ _ _=>false) (fun _ _ _=>false) (fun _ _=>false) f (fun _ _=>false) (fun _ _ _=>false) (fun _ _ _ _=>false)
theorem onName_k {P:PySem.Expr→Prop} {e:PySem.Expr} {f:Str→Pos→Bool} (h:onName e f=true) (k:∀ a0 a1,f a0 a1=true→P (.Name a0 a1)):P e :=
 @PySem.Expr.casesOn (fun e=>onName e f=true→P e) e (fun _ _ _=>ff) (fun _ _ _=>ff) (fun _ _ _ _=>ff) (fun _ _ _=>ff) (fun _ _ _ _=>ff) (fun _ _ _ _=>ff) (fun _ _ _=>ff) (fun _ _ _=>ff) (fun _ _ _ _=>ff) (fun _ _ _ _=>ff) (fun _ _ _ _ _=>ff) (fun _ _ _ _=>ff) (fun _ _=>ff) (fun _ _=>ff) (fun _ _=>ff) (fun _ _ _ _=>ff) (fun _ _ _ _=>ff) (fun _ _ _ _=>ff) (fun _ _=>ff) (fun _ _ _=>ff) (fun _ _ _=>ff) (fun _ _ _=>ff) (fun _ _=>ff) k (fun _ _=>ff) (fun _ _ _=>ff) (fun _ _ _ _=>ff) h
noncomputable def onTuple (e:PySem.Expr) (f:(List Expr)→Nat→Pos→Bool):Bool:=@PySem.Expr.casesOn (fun _=>Bool) e (fun _ _ _=>false) (fun _ _ _=>false) (fun _ _ _ _=>false) (fun _ _ _=>false) (fun _ _ _ _=>false) (fun _ _ _ _=>false) (fun _ _ _=>false) (fun _ _ _=>false) (fun _ _ _ _=>false) (fun _ _ _ _=>false) (fun _ _ _ _ _=>false) (fun _ _ _ _=>false) (fun _ _=>false) (fun _ _=>false) (fun _ _=>false) (fun _ _ _ _=>false) (fun _ _ _ _=>false) (fun _ _ _ _=>false) (fun _ _=>false) (fun _ _ _=>false) (fun _ _ _=>false) (fun _ _ _=>false) (fun _ _=>false) (fun _ _=>false) (fun _ _=>false) f (fun _ _ _ _=>false)
theorem onTuple_k {P:PySem.Expr→Prop} {e:PySem.Expr} {f:(List Expr)→Nat→Pos→Bool} (h:onTuple e f=true) (k:∀ a0 a1 a2,f a0 a1 a2=true→P (.Tuple a0 a1 a2)):P e :=
 @PySem.Expr.casesOn (fun e=>onTuple e f=true→P e) e (fun _ _ _=>ff) (fun _ _ _=>ff) (fun _ _ _ _=>ff) (fun _ _ _=>ff) (fun _ _ _ _=>ff) (fun _ _ _ _=>ff) (fun _ _ _=>ff) (fun _ _ _=>ff) (fun _ _ _ _=>ff) (fun _ _ _ _=>ff) (fun _ _ _ _ _=>ff) (fun _ _ _ _=>ff) (fun _ _=>ff) (fun _ _=>ff) (fun _ _=>ff) (fun _ _ _ _=>ff) (fun _ _ _ _=>ff) (fun _ _ _ _=>ff) (fun _ _=>ff) (fun _ _ _=>ff) (fun _ _ _=>ff) (fun _ _ _=>ff) (fun _ _=>ff) (fun _ _=>ff) (fun _ _=>ff) k (fun _ _ _ _=>ff) h
noncomputable def onList (e:PySem.Expr) (f:(List Expr)→Pos→Bool):Bool:=@PySem.Expr.casesOn (fun _=>Bool) e (fun _ _ _=>false) (fun _ _ _=>false) (fun _ _ _ _=>false) (fun _ _ _=>false) (fun _ _ _ _=>false) (fun _ _ _ _=>false) (fun _ _ _=>false) (fun _ _ _=>false) (fun _ _ _ _=>false) (fun _ _ _ _=>false) (fun _ _ _ _ _=>false) (fun _ _ _ _=>false) (fun _ _=>false) (fun _ _=>false) (fun _ _=>false) (fun _ _ _ _=>false) (fun _ _ _ _=>false) (fun _ _ _ _=>false) (fun _ _=>false) (fun _ _ _=>false) (fun _ _ _=>false) (fun _ _ _=>false) (fun _ _=>false) (fun _ _=>false) f (fun _ _ _=>false) (fun _ _ _ _=>false)
theorem onList_k {P:PySem.Expr→Prop} {e:PySem.Expr} {f:(List Expr)→Pos→Bool} (h:onList e f=true) (k:∀ a0 a1,f a0 a1=true→P (.List a0 a1)):P e :=
 @PySem.Expr.casesOn (fun e=>onList e f=true→P e) e (fun _ _ _=>ff) (fun _ _ _=>ff) (fun _ _ _ _=>ff) (fun _ _ _=>ff) (fun _ _ _ _=>ff) (fun _ _ _ _=>ff) (fun _ _ _=>ff) (fun _ _ _=>ff) (fun _ _ _ _=>ff) (fun _ _ _ _=>ff) (fun _ _ _ _ _=>ff) (fun _ _ _ _=>ff) (fun _ _=>ff) (fun _ _=>ff) (fun _ _=>ff) (fun _ _ _ _=>ff) (fun _ _ _ _=>ff) (fun _ _ _ _=>ff) (fun _ _=>ff) (fun _ _ _=>ff) (fun _ _ _=>ff) (fun _ _ _=>ff) (fun _ _=>ff) (fun _ _=>ff) k (fun _ _ _=>ff) (fun _ _ _ _=>ff) h
noncomputable def onDict (e:PySem.Expr) (f:(List (Option Expr))→(List Expr)→Pos→Bool):Bool:=@PySem.Expr.casesOn (fun _=>Bool) e (fun _ _ _=>false) (fun _ _ _=>false) (fun _ _ _ _=>false) (fun _ _ _=>false) (fun _ _ _ _=>false) (fun _ _ _ _=>false) f (fun _ _ _=>false) (fun _ _ _ _=>false) (fun _ _ _ _=>false) (fun _ _ _ _ _=>false) (fun _ _ _ _=>false) (fun _ _=>false) (fun _ _=>false) (fun _ _=>false) (fun _ _ _ _=>false) (fun _ _ _ _=>false) (fun _ _ _ _=>false) (fun _ _=>false) (fun _ _ _=>false) (fun _ _ _=>false) (fun _ _ _=>false) (fun _ _=>false) (fun _ _=>false) (fun _ _=>false) (fun _ _ _=>false) (fun _ _ _ _=>false)
theorem onDict_k {P:PySem.Expr→Prop} {e:PySem.Expr} {f:(List (Option Expr))→(List Expr)→Pos→Bool} (h:onDict e f=true) (k:∀ a0 a1 a2,f a0 a1 a2=true→P (.Dict a0 a1 a2)):P e :=
 @PySem.Expr.casesOn (fun e=>onDict e f=true→P e) e (fun _ _ _=>ff) (fun _ _ _=>ff) (fun _ _ _ _=>ff) (fun _ _ _=>ff) (fun _ _ _ _=>ff) (fun _ _ _ _=>ff) k (fun _ _ _=>ff) (fun _ _ _ _=>ff) (fun _ _ _ _=>ff) (fun _ _ _ _ _=>ff) (fun _ _ _ _=>ff) (fun _ _=>ff) (fun _ _=>ff) (fun _ _=>ff) (fun _ _ _ _=>ff) (fun _ _ _ _=>ff) (fun _ _ _ _=>ff) (fun _ _=>ff) (fun _ _ _=>ff) (fun _ _ _=>ff) (fun _ _ _=>ff) (fun _ _=>ff) (fun _ _=>ff) (fun _ _=>ff) (fun _ _ _=>ff) (fun _ _ _ _=>ff) h
noncomputable def onBinOp (e:PySem.Expr) (f:Expr→Operator→Expr→Pos→Bool):Bool:=@PySem.Expr.casesOn (fun _=>Bool) e (fun _ _ _=>false) (fun _ _ _=>false) f (fun _ _ _=>false) (fun _ _ _ _=>false) (fun _ _ _ _=>false) (fun _ _ _=>false) (fun _ _ _=>false) (fun _ _ _ _=>false) (fun _ _ _ _=>false) (fun _ _ _ _ _=>false) (fun _ _ _ _=>false) (fun _ _=>false) (fun _ _=>false) (fun _ _=>false) (fun _ _ _ _=>false) (fun _ _ _ _=>false) (fun _ _ _ _=>false) (fun _ _=>false) (fun _ _ _=>false) (fun _ _ _=>false) (fun _ _ _=>false) (fun _ _=>false) (fun _ _=>false) (fun _ _=>false) (fun _ _ _=>false) (fun _ _ _ _=>false)
theorem onBinOp_k {P:PySem.Expr→Prop} {e:PySem.Expr} {f:Expr→Operator→Expr→Pos→Bool} (h:onBinOp e f=true) (k:∀ a0 a1 a2 a3,f a0 a1 a2 a3=true→P (.BinOp a0 a1 a2 a3)):P e :=
 @PySem.Expr.casesOn (fun e=>onBinOp e f=true→P e) e (fun _ _ _=>ff) (fun _ _ _=>ff) k (fun _ _ _=>ff) (fun _ _ _ _=>ff) (fun _ _ _ _=>ff) (fun _ _ _=>ff) (fun _ _ _=>ff) (fun _ _ _ _=>ff) (fun _ _ _ _=>ff) (fun _ _ _ _ _=>ff) (fun _ _ _ _=>ff) (fun _ _=>ff) (fun _ _=>ff) (fun _ _=>ff) (fun _ _ _ _=>ff) (fun _ _ _ _=>ff) (fun _ _ _ _=>ff) (fun _ _=>ff) (fun _ _ _=>ff) (fun _ _ _=>ff) (fun _ _ _=>ff) (fun _ _=>ff) (fun _ _=>ff) (fun _ _=>ff) (fun _ _ _=>ff) (fun _ _ _ _=>ff) h
noncomputable def onCompare (e:PySem.Expr) (f:Expr→(List CmpOp)→(List Expr)→Pos→Bool):Bool:=@PySem.Expr.casesOn (fun _=>Bool) e (fun _ _ _=>false) (fun _ _ _=>false) (fun _ _ _ _=>false) (fun _ _ _=>false) (fun _ _ _ _=>false) (fun _ _ _ _=>false) (fun _ _ _=>false) (fun _ _ _=>false) (fun _ _ _ _=>false) (fun _ _ _ _=>false) (fun _ _ _ _ _=>false) (fun _ _ _ _=>false) (fun _ _=>false) (fun _ _=>false) (fun _ _=>false) f (fun _ _ _ _=>false) (fun _ _ _ _=>false) (fun _ _=>false) (fun _ _ _=>false) (fun _ _ _=>false) (fun _ _ _=>false) (fun _ _=>false) (fun _ _=>false) (fun _ _=>false) (fun _ _ _=>false) (fun _ _ _ _=>false)
theorem onCompare_k {P:PySem.Expr→Prop} {e:PySem.Expr} {f:Expr→(List CmpOp)→(List Expr)→Pos→Bool} (h:onCompare e f=true) (k:∀ a0 a1 a2 a3,f a0 a1 a2 a3=true→P (.Compare a0 a1 a2 a3)):P e :=
 @PySem.Expr.casesOn (fun e=>onCompare e f=true→P e) e (fun _ _ _=>ff) (fun _ _ _=>ff) (fun _ _ _ _=>ff) (fun _ _ _=>ff) (fun _ _ _ _=>ff) (fun _ _ _ _=>ff) (fun _ _ _=>ff) (fun _ _ _=>ff) (fun _ _ _ _=>ff) (fun _ _ _ _=>ff) (fun _ _ _ _ _=>ff) (fun _ _ _ _=>ff) (fun _ _=>ff) (fun _ _=>ff) (fun _ _=>ff) k (fun _ _ _ _=>ff) (fun _ _ _ _=>ff) (fun _ _=>ff) (fun _ _ _=>ff) (fun _ _ _=>ff) (fun _ _ _=>ff) (fun _ _=>ff) (fun _ _=>ff) (fun _ _=>ff) (fun _ _ _=>ff) (fun _ _ _ _=>ff) h
noncomputable def onBoolOp (e:PySem.Expr) (f:BoolOp→(List Expr)→Pos→Bool):Bool:=@PySem.Expr.casesOn (fun _=>Bool) e f (fun _ _ _=>false) (fun _ _ _ _=>false) (fun _ _ _=>false) (fun _ _ _ _=>false) (fun _ _ _ _=>false) (fun _ _ _=>false) (fun _ _ _=>false) (fun _ _ _ _=>false) (fun _ _ _ _=>false) (fun _ _ _ _ _=>false) (fun _ _ _ _=>false) (fun _ _=>false) (fun _ _=>false) (fun _ _=>false) (fun _ _ _ _=>false) (fun _ _ _ _=>false) (fun _ _ _ _=>false) (fun _ _=>false) (fun _ _ _=>false) (fun _ _ _=>false) (fun _ _ _=>false) (fun _ _=>false) (fun _ _=>false) (fun _ _=>false) (fun _ _ _=>false) (fun _ _ _ _=>false)
theorem onBoolOp_k {P:PySem.Expr→Prop} {e:PySem.Expr} {f:BoolOp→(List Expr)→Pos→Bool} (h:onBoolOp e f=true) (k:∀ a0 a1 a2,f a0 a1 a2=true→P (.BoolOp a0 a1 a2)):P e :=
 @PySem.Expr.casesOn (fun e=>onBoolOp e f=true→P e) e k (fun _ _ _=>ff) (fun _ _ _ _=>ff) (fun _ _ _=>ff) (fun _ _ _ _=>ff) (fun _ _ _ _=>ff) (fun _ _ _=>ff) (fun _ _ _=>ff) (fun _ _ _ _=>ff) (fun _ _ _ _=>ff) (fun _ _ _ _ _=>ff) (fun _ _ _ _=>ff) (fun _ _=>ff) (fun _ _=>ff) (fun _ _=>ff) (fun _ _ _ _=>ff) (fun _ _ _ _=>ff) (fun _ _ _ _=>ff) (fun _ _=>ff) (fun _ _ _=>ff) (fun _ _ _=>ff) (fun _ _ _=>ff) (fun _ _=>ff) (fun _ _=>ff) (fun _ _=>ff) (fun _ _ _=>ff) (fun _ _ _ _=>ff) h
noncomputable def onIfExp (e:PySem.Expr) (f:Expr→Expr→Expr→Pos→Bool):Bool:=@PySem.Expr.casesOn (fun _=>Bool) e (fun _ _ _=>false) (fun _ _ _=>false) (fun _ _ _ _=>false) (fun _ _ _=>false) (fun _ _ _ _=>false) f (fun _ _ _=>false) (fun _ _ _=>false) (fun _ _ _ _=>false) (fun _ _ _ _=>false) (fun _ _ _ _ _=>false) (fun _ _ _ _=>false) (fun _ _=>false) (fun _ _=>false) (fun _ _=>false) (fun _ _ _ _=>false) (fun _ _ _ _=>false) (fun _ _ _ _=>false) (fun _ _=>false) (fun _ _ _=>false) (fun _ _ _=>false) (fun _ _ _=>false) (fun _ _=>false) (fun _ _=>false) (fun _ _=>false) (fun _ _ _=>false) (fun _ _ _ _=>false)
theorem onIfExp_k {P:PySem.Expr→Prop} {e:PySem.Expr} {f:Expr→Expr→Expr→Pos→Bool} (h:onIfExp e f=true) (k:∀ a0 a1 a2 a3,f a0 a1 a2 a3=true→P (.IfExp a0 a1 a2 a3)):P e :=
 @PySem.Expr.casesOn (fun e=>onIfExp e f=true→P e) e (fun _ _ _=>ff) (fun _ _ _=>ff) (fun _ _ _ _=>ff) (fun _ _ _=>ff) (fun _ _ _ _=>ff) k (fun _ _ _=>ff) (fun _ _ _=>ff) (fun _ _ _ _=>ff) (fun _ _ _ _=>ff) (fun _ _ _ _ _=>ff) (fun _ _ _ _=>ff) (fun _ _=>ff) (fun _ _=>ff) (fun _ _=>ff) (fun _ _ _ _=>ff) (fun _ _ _ _=>ff) (fun _ _ _ _=>ff) (fun _ _=>ff) (fun _ _ _=>ff) (fun _ _ _=>ff) (fun _ _ _=>ff) (fun _ _=>ff) (fun _ _=>ff) (fun _ _=>ff) (fun _ _ _=>ff) (fun _ _ _ _=>ff) h
noncomputable def onSubscript (e:PySem.Expr) (f:Expr→Expr→Pos→Bool):Bool:=@PySem.Expr.casesOn (fun _=>Bool) e (fun _ _ _=>false) (fun _ _ _=>false) (fun _ _ _ _=>false) (fun _ _ _=>false) (fun _ _ _ _=>false) (fun _ _ _ _=>false) (fun _ _ _=>false) (fun _ _ _=>false) (fun _ _ _ _=>false) (fun _ _ _ _=>false) (fun _ _ _ _ _=>false) (fun _ _ _ _=>false) (fun _ _=>false) (fun _ _=>false) (fun _ _=>false) (fun _ _ _ _=>false) (fun _ _ _ _=>false) (fun _ _ _ _=>false) (fun _ _=>false) (fun _ _ _=>false) (fun _ _ _=>false) f (fun _ _=>false) (fun _ _=>false) (fun _ _=>false) (fun _ _ _=>false) (fun _ _ _ _=>false)
theorem onSubscript_k {P:PySem.Expr→Prop} {e:PySem.Expr} {f:Expr→Expr→Pos→Bool} (h:onSubscript e f=true) (k:∀ a0 a1 a2,f a0 a1 a2=true→P (.Subscript a0 a1 a2)):P e :=
 @PySem.Expr.casesOn (fun e=>onSubscript e f=true→P e) e (fun _ _ _=>ff) (fun _ _ _=>ff) (fun _ _ _ _=>ff) (fun _ _ _=>ff) (fun _ _ _ _=>ff) (fun _ _ _ _=>ff) (fun _ _ _=>ff) (fun _ _ _=>ff) (fun _ _ _ _=>ff) (fun _ _ _ _=>ff) (fun _ _ _ _ _=>ff) (fun _ _ _ _=>ff) (fun _ _=>ff) (fun _ _=>ff) (fun _ _=>ff) (fun _ _ _ _=>ff) (fun _ _ _ _=>ff) (fun _ _ _ _=>ff) (fun _ _=>ff) (fun _ _ _=>ff) (fun _ _ _=>ff) k (fun _ _=>ff) (fun _ _=>ff) (fun _ _=>ff) (fun _ _ _=>ff) (fun _ _ _ _=>ff) h
noncomputable def onSlice (e:PySem.Expr) (f:(Option Expr)→(Option Expr)→(Option Expr)→Pos→Bool):Bool:=@PySem.Expr.casesOn (fun _=>Bool) e (fun _ _ _=>false) (fun _ _ _=>false) (fun _ _ _ _=>false) (fun _ _ _=>false) (fun _ _ _ _=>false) (fun _ _ _ _=>false) (fun _ _ _=>false) (fun _ _ _=>false) (fun _ _ _ _=>false) (fun _ _ _ _=>false) (fun _ _ _ _ _=>false) (fun _ _ _ _=>false) (fun _ _=>false) (fun _ _=>false) (fun _ _=>false) (fun _ _ _ _=>false) (fun _ _ _ _=>false) (fun _ _ _ _=>false) (fun _ _=>false) (fun _ _ _=>false) (fun _ _ _=>false) (fun _ _ _=>false) (fun _ _=>false) (fun _ _=>false) (fun _ _=>false) (fun _ _ _=>false) f
theorem onSlice_k {P:PySem.Expr→Prop} {e:PySem.Expr} {f:(Option Expr)→(Option Expr)→(Option Expr)→Pos→Bool} (h:onSlice e f=true) (k:∀ a0 a1 a2 a3,f a0 a1 a2 a3=true→P (.Slice a0 a1 a2 a3)):P e :=
 @PySem.Expr.casesOn (fun e=>onSlice e f=true→P e) e (fun _ _ _=>ff) (fun _ _ _=>ff) (fun _ _ _ _=>ff) (fun _ _ _=>ff) (fun _ _ _ _=>ff) (fun _ _ _ _=>ff) (fun _ _ _=>ff) (fun _ _ _=>ff) (fun _ _ _ _=>ff) (fun _ _ _ _=>ff) (fun _ _ _ _ _=>ff) (fun _ _ _ _=>ff) (fun _ _=>ff) (fun _ _=>ff) (fun _ _=>ff) (fun _ _ _ _=>ff) (fun _ _ _ _=>ff) (fun _ _ _ _=>ff) (fun _ _=>ff) (fun _ _ _=>ff) (fun _ _ _=>ff) (fun _ _ _=>ff) (fun _ _=>ff) (fun _ _=>ff) (fun _ _=>ff) (fun _ _ _=>ff) k h
noncomputable def onCall (e:PySem.Expr) (f:Expr→(List Expr)→(List Keyword)→Pos→Bool):Bool:=@PySem.Expr.casesOn (fun _=>Bool) e (fun _ _ _=>false) (fun _ _ _=>false) (fun _ _ _ _=>false) (fun _ _ _=>false) (fun _ _ _ _=>false) (fun _ _ _ _=>false) (fun _ _ _=>false) (fun _ _ _=>false) (fun _ _ _ _=>false) (fun _ _ _ _=>false) (fun _ _ _ _ _=>false) (fun _ _ _ _=>false) (fun _ _=>false) (fun _ _=>false) (fun _ _=>false) (fun _ _ _ _=>false) f (fun _ _ _ _=>false) (fun _ _=>false) (fun _ _ _=>false) (fun _ _ _=>false) (fun _ _ _=>false) (fun _ _=>false) (fun _ _=>false) (fun _ _=>false) (fun _ _ _=>false) (fun _ _ _ _=>false)
theorem onCall_k {P:PySem.Expr→Prop} {e:PySem.Expr} {f:Expr→(List Expr)→(List Keyword)→Pos→Bool} (h:onCall e f=true) (k:∀ a0 a1 a2 a3,f a0 a1 a2 a3=true→P (.Call a0 a1 a2 a3)):P e :=
 @PySem.Expr.casesOn (fun e=>onCall e f=true→P e) e (fun _ _ _=>ff) (fun _ _ _=>ff) (fun _ _ _ _=>ff) (fun _ _ _=>ff) (fun _ _ _ _=>ff) (fun _ _ _ _=>ff) (fun _ _ _=>ff) (fun _ _ _=>ff) (fun _ _ _ _=>ff) (fun _ _ _ _=>ff) (fun _ _ _ _ _=>ff) (fun _ _ _ _=>ff) (fun _ _=>ff) (fun _ _=>ff) (fun _ _=>ff) (fun _ _ _ _=>ff) k (fun _ _ _ _=>ff) (fun _ _=>ff) (fun _ _ _=>ff) (fun _ _ _=>ff) (fun _ _ _=>ff) (fun _ _=>ff) (fun _ _=>ff) (fun _ _=>ff) (fun _ _ _=>ff) (fun _ _ _ _=>ff) h
noncomputable def onAttribute (e:PySem.Expr) (f:Expr→Str→Pos→Bool):Bool:=@PySem.Expr.casesOn (fun _=>Bool) e (fun _ _ _=>false) (fun _ _ _=>false) (fun _ _ _ _=>false) (fun _ _ _=>false) (fun _ _ _ _=>false) (fun _ _ _ _=>false) (fun _ _ _=>false) (fun _ _ _=>false) (fun _ _ _ _=>false) (fun _ _ _ _=>false) (fun _ _ _ _ _=>false) (fun _ _ _ _=>false) (fun _ _=>false) (fun _ _=>false) (fun _ _=>false) (fun _ _ _ _=>false) (fun _ _ _ _=>false) (fun _ _ _ _=>false) (fun _ _=>false) (fun _ _ _=>false) f (fun _ _ _=>false) (fun _ _=>false) (fun _ _=>false) (fun _ _=>false) (fun _ _ _=>false) (fun _ _ _ _=>false)
theorem onAttribute_k {P:PySem.Expr→Prop} {e:PySem.Expr} {f:Expr→Str→Pos→Bool} (h:onAttribute e f=true) (k:∀ a0 a1 a2,f a0 a1 a2=true→P (.Attribute a0 a1 a2)):P e :=
 @PySem.Expr.casesOn (fun e=>onAttribute e f=true→P e) e (fun _ _ _=>ff) (fun _ _ _=>ff) (fun _ _ _ _=>ff) (fun _ _ _=>ff) (fun _ _ _ _=>ff) (fun _ _ _ _=>ff) (fun _ _ _=>ff) (fun _ _ _=>ff) (fun _ _ _ _=>ff) (fun _ _ _ _=>ff) (fun _ _ _ _ _=>ff) (fun _ _ _ _=>ff) (fun _ _=>ff) (fun _ _=>ff) (fun _ _=>ff) (fun _ _ _ _=>ff) (fun _ _ _ _=>ff) (fun _ _ _ _=>ff) (fun _ _=>ff) (fun _ _ _=>ff) k (fun _ _ _=>ff) (fun _ _=>ff) (fun _ _=>ff) (fun _ _=>ff) (fun _ _ _=>ff) (fun _ _ _ _=>ff) h
noncomputable def onListComp (e:PySem.Expr) (f:Expr→(List Comprehension)→Scope→Pos→Bool):Bool:=@PySem.Expr.casesOn (fun _=>Bool) e (fun _ _ _=>false) (fun _ _ _=>false) (fun _ _ _ _=>false) (fun _ _ _=>false) (fun _ _ _ _=>false) (fun _ _ _ _=>false) (fun _ _ _=>false) (fun _ _ _=>false) f (fun _ _ _ _=>false) (fun _ _ _ _ _=>false) (fun _ _ _ _=>false) (fun _ _=>false) (fun _ _=>false) (fun _ _=>false) (fun _ _ _ _=>false) (fun _ _ _ _=>false) (fun _ _ _ _=>false) (fun _ _=>false) (fun _ _ _=>false) (fun _ _ _=>false) (fun _ _ _=>false) (fun _ _=>false) (fun _ _=>false) (fun _ _=>false) (fun _ _ _=>false) (fun _ _ _ _=>false)
theorem onListComp_k {P:PySem.Expr→Prop} {e:PySem.Expr} {f:Expr→(List Comprehension)→Scope→Pos→Bool} (h:onListComp e f=true) (k:∀ a0 a1 a2 a3,f a0 a1 a2 a3=true→P (.ListComp a0 a1 a2 a3)):P e :=
 @PySem.Expr.casesOn (fun e=>onListComp e f=true→P e) e (fun _ _ _=>ff) (fun _ _ _=>ff) (fun _ _ _ _=>ff) (fun _ _ _=>ff) (fun _ _ _ _=>ff) (fun _ _ _ _=>ff) (fun _ _ _=>ff) (fun _ _ _=>ff) k (fun _ _ _ _=>ff) (fun _ _ _ _ _=>ff) (fun _ _ _ _=>ff) (fun _ _=>ff) (fun _ _=>ff) (fun _ _=>ff) (fun _ _ _ _=>ff) (fun _ _ _ _=>ff) (fun _ _ _ _=>ff) (fun _ _=>ff) (fun _ _ _=>ff) (fun _ _ _=>ff) (fun _ _ _=>ff) (fun _ _=>ff) (fun _ _=>ff) (fun _ _=>ff) (fun _ _ _=>ff) (fun _ _ _ _=>ff) h
noncomputable def onint (e:PySem.Const) (f:Int→Bool):Bool:=@PySem.Const.casesOn (fun _=>Bool) e false (fun _=>false) f (fun _=>false) (fun _ _=>false) (fun _=>false) (fun _=>false) false
theorem onint_k {P:PySem.Const→Prop} {e:PySem.Const} {f:Int→Bool} (h:onint e f=true) (k:∀ a0,f a0=true→P (.int a0)):P e :=
 @PySem.Const.casesOn (fun e=>onint e f=true→P e) e ff (fun _=>ff) k (fun _=>ff) (fun _ _=>ff) (fun _=>ff) (fun _=>ff) ff h
noncomputable def onstr (e:PySem.Const) (f:Str→Bool):Bool:=@PySem.Const.casesOn (fun _=>Bool) e false (fun _=>false) (fun _=>false) (fun _=>false) (fun _ _=>false) f (fun _=>false) false
theorem onstr_k {P:PySem.Const→Prop} {e:PySem.Const} {f:Str→Bool} (h:onstr e f=true) (k:∀ a0,f a0=true→P (.str a0)):P e :=
 @PySem.Const.casesOn (fun e=>onstr e f=true→P e) e ff (fun _=>ff) (fun _=>ff) (fun _=>ff) (fun _ _=>ff) k (fun _=>ff) ff h
noncomputable def onfloat (e:PySem.Const) (f:UInt64→Bool):Bool:=@PySem.Const.casesOn (fun _=>Bool) e false (fun _=>false) (fun _=>false) f (fun _ _=>false) (fun _=>false) (fun _=>false) false
theorem onfloat_k {P:PySem.Const→Prop} {e:PySem.Const} {f:UInt64→Bool} (h:onfloat e f=true) (k:∀ a0,f a0=true→P (.float a0)):P e :=
 @PySem.Const.casesOn (fun e=>onfloat e f=true→P e) e ff (fun _=>ff) (fun _=>ff) k (fun _ _=>ff) (fun _=>ff) (fun _=>ff) ff h
noncomputable def onbytes (e:PySem.Const) (f:(List UInt8)→Bool):Bool:=@PySem.Const.casesOn (fun _=>Bool) e false (fun _=>false) (fun _=>false) (fun _=>false) (fun _ _=>false) (fun _=>false) f false
theorem onbytes_k {P:PySem.Const→Prop} {e:PySem.Const} {f:(List UInt8)→Bool} (h:onbytes e f=true) (k:∀ a0,f a0=true→P (.bytes a0)):P e :=
 @PySem.Const.casesOn (fun e=>onbytes e f=true→P e) e ff (fun _=>ff) (fun _=>ff) (fun _=>ff) (fun _ _=>ff) (fun _=>ff) k ff h
noncomputable def onUSub (e:PySem.UnaryOp) (b:Bool):Bool:=@PySem.UnaryOp.casesOn (fun _=>Bool) e false false false b
theorem onUSub_k {P:PySem.UnaryOp→Prop} {e:PySem.UnaryOp} {b:Bool} (h:onUSub e b=true) (k:b=true→P .USub):P e :=
 @PySem.UnaryOp.casesOn (fun e=>onUSub e b=true→P e) e ff ff ff k h
noncomputable def onNot (e:PySem.UnaryOp) (b:Bool):Bool:=@PySem.UnaryOp.casesOn (fun _=>Bool) e false b false false
theorem onNot_k {P:PySem.UnaryOp→Prop} {e:PySem.UnaryOp} {b:Bool} (h:onNot e b=true) (k:b=true→P .Not):P e :=
 @PySem.UnaryOp.casesOn (fun e=>onNot e b=true→P e) e ff k ff ff h
noncomputable def onAnd (e:PySem.BoolOp) (b:Bool):Bool:=@PySem.BoolOp.casesOn (fun _=>Bool) e b false
theorem onAnd_k {P:PySem.BoolOp→Prop} {e:PySem.BoolOp} {b:Bool} (h:onAnd e b=true) (k:b=true→P .And):P e :=
 @PySem.BoolOp.casesOn (fun e=>onAnd e b=true→P e) e k ff h
noncomputable def onOr (e:PySem.BoolOp) (b:Bool):Bool:=@PySem.BoolOp.casesOn (fun _=>Bool) e false b
theorem onOr_k {P:PySem.BoolOp→Prop} {e:PySem.BoolOp} {b:Bool} (h:onOr e b=true) (k:b=true→P .Or):P e :=
 @PySem.BoolOp.casesOn (fun e=>onOr e b=true→P e) e ff k h
noncomputable def onIs (e:PySem.CmpOp) (b:Bool):Bool:=@PySem.CmpOp.casesOn (fun _=>Bool) e false false false false false false b false false false
theorem onIs_k {P:PySem.CmpOp→Prop} {e:PySem.CmpOp} {b:Bool} (h:onIs e b=true) (k:b=true→P .Is):P e :=
 @PySem.CmpOp.casesOn (fun e=>onIs e b=true→P e) e ff ff ff ff ff ff k ff ff ff h
noncomputable def onAssign (e:PySem.Stmt) (f:(List Expr)→Expr→Pos→Bool):Bool:=@PySem.Stmt.casesOn (fun _=>Bool) e (fun _ _ _ _ _ _ _ _ _ _=>false) (fun _ _ _ _ _ _ _ _ _ _=>false) (fun _ _ _ _ _ _ _ _ _ _ _=>false) (fun _ _=>false) (fun _ _=>false) f (fun _ _ _ _ _ _ _=>false) (fun _ _ _ _=>false) (fun _ _ _ _ _=>false) (fun _ _ _ _ _=>false) (fun _ _ _ _ _=>false) (fun _ _ _ _=>false) (fun _ _ _ _=>false) (fun _ _ _=>false) (fun _ _ _=>false) (fun _ _ _=>false) (fun _ _ _=>false) (fun _ _ _ _ _=>false) (fun _ _ _ _ _=>false) (fun _ _ _=>false) (fun _ _=>false) (fun _ _ _ _=>false) (fun _ _=>false) (fun _ _=>false) (fun _ _=>false) (fun _=>false) (fun _=>false) (fun _=>false)
theorem onAssign_k {P:PySem.Stmt→Prop} {e:PySem.Stmt} {f:(List Expr)→Expr→Pos→Bool} (h:onAssign e f=true) (k:∀ a0 a1 a2,f a0 a1 a2=true→P (.Assign a0 a1 a2)):P e :=
 @PySem.Stmt.casesOn (fun e=>onAssign e f=true→P e) e (fun _ _ _ _ _ _ _ _ _ _=>ff) (fun _ _ _ _ _ _ _ _ _ _=>ff) (fun _ _ _ _ _ _ _ _ _ _ _=>ff) (fun _ _=>ff) (fun _ _=>ff) k (fun _ _ _ _ _ _ _=>ff) (fun _ _ _ _=>ff) (fun _ _ _ _ _=>ff) (fun _ _ _ _ _=>ff) (fun _ _ _ _ _=>ff) (fun _ _ _ _=>ff) (fun _ _ _ _=>ff) (fun _ _ _=>ff) (fun _ _ _=>ff) (fun _ _ _=>ff) (fun _ _ _=>ff) (fun _ _ _ _ _=>ff) (fun _ _ _ _ _=>ff) (fun _ _ _=>ff) (fun _ _=>ff) (fun _ _ _ _=>ff) (fun _ _=>ff) (fun _ _=>ff) (fun _ _=>ff) (fun _=>ff) (fun _=>ff) (fun _=>ff) h
noncomputable def onAugAssign (e:PySem.Stmt) (f:Expr→Operator→Expr→Pos→Bool):Bool:=@PySem.Stmt.casesOn (fun _=>Bool) e (fun _ _ _ _ _ _ _ _ _ _=>false) (fun _ _ _ _ _ _ _ _ _ _=>false) (fun _ _ _ _ _ _ _ _ _ _ _=>false) (fun _ _=>false) (fun _ _=>false) (fun _ _ _=>false) (fun _ _ _ _ _ _ _=>false) f (fun _ _ _ _ _=>false) (fun _ _ _ _ _=>false) (fun _ _ _ _ _=>false) (fun _ _ _ _=>false) (fun _ _ _ _=>false) (fun _ _ _=>false) (fun _ _ _=>false) (fun _ _ _=>false) (fun _ _ _=>false) (fun _ _ _ _ _=>false) (fun _ _ _ _ _=>false) (fun _ _ _=>false) (fun _ _=>false) (fun _ _ _ _=>false) (fun _ _=>false) (fun _ _=>false) (fun _ _=>false) (fun _=>false) (fun _=>false) (fun _=>false)
theorem onAugAssign_k {P:PySem.Stmt→Prop} {e:PySem.Stmt} {f:Expr→Operator→Expr→Pos→Bool} (h:onAugAssign e f=true) (k:∀ a0 a1 a2 a3,f a0 a1 a2 a3=true→P (.AugAssign a0 a1 a2 a3)):P e :=
 @PySem.Stmt.casesOn (fun e=>onAugAssign e f=true→P e) e (fun _ _ _ _ _ _ _ _ _ _=>ff) (fun _ _ _ _ _ _ _ _ _ _=>ff) (fun _ _ _ _ _ _ _ _ _ _ _=>ff) (fun _ _=>ff) (fun _ _=>ff) (fun _ _ _=>ff) (fun _ _ _ _ _ _ _=>ff) k (fun _ _ _ _ _=>ff) (fun _ _ _ _ _=>ff) (fun _ _ _ _ _=>ff) (fun _ _ _ _=>ff) (fun _ _ _ _=>ff) (fun _ _ _=>ff) (fun _ _ _=>ff) (fun _ _ _=>ff) (fun _ _ _=>ff) (fun _ _ _ _ _=>ff) (fun _ _ _ _ _=>ff) (fun _ _ _=>ff) (fun _ _=>ff) (fun _ _ _ _=>ff) (fun _ _=>ff) (fun _ _=>ff) (fun _ _=>ff) (fun _=>ff) (fun _=>ff) (fun _=>ff) h
noncomputable def onExpr (e:PySem.Stmt) (f:Expr→Pos→Bool):Bool:=@PySem.Stmt.casesOn (fun _=>Bool) e (fun _ _ _ _ _ _ _ _ _ _=>false) (fun _ _ _ _ _ _ _ _ _ _=>false) (fun _ _ _ _ _ _ _ _ _ _ _=>false) (fun _ _=>false) (fun _ _=>false) (fun _ _ _=>false) (fun _ _ _ _ _ _ _=>false) (fun _ _ _ _=>false) (fun _ _ _ _ _=>false) (fun _ _ _ _ _=>false) (fun _ _ _ _ _=>false) (fun _ _ _ _=>false) (fun _ _ _ _=>false) (fun _ _ _=>false) (fun _ _ _=>false) (fun _ _ _=>false) (fun _ _ _=>false) (fun _ _ _ _ _=>false) (fun _ _ _ _ _=>false) (fun _ _ _=>false) (fun _ _=>false) (fun _ _ _ _=>false) (fun _ _=>false) (fun _ _=>false) f (fun _=>false) (fun _=>false) (fun _=>false)
theorem onExpr_k {P:PySem.Stmt→Prop} {e:PySem.Stmt} {f:Expr→Pos→Bool} (h:onExpr e f=true) (k:∀ a0 a1,f a0 a1=true→P (.Expr a0 a1)):P e :=
 @PySem.Stmt.casesOn (fun e=>onExpr e f=true→P e) e (fun _ _ _ _ _ _ _ _ _ _=>ff) (fun _ _ _ _ _ _ _ _ _ _=>ff) (fun _ _ _ _ _ _ _ _ _ _ _=>ff) (fun _ _=>ff) (fun _ _=>ff) (fun _ _ _=>ff) (fun _ _ _ _ _ _ _=>ff) (fun _ _ _ _=>ff) (fun _ _ _ _ _=>ff) (fun _ _ _ _ _=>ff) (fun _ _ _ _ _=>ff) (fun _ _ _ _=>ff) (fun _ _ _ _=>ff) (fun _ _ _=>ff) (fun _ _ _=>ff) (fun _ _ _=>ff) (fun _ _ _=>ff) (fun _ _ _ _ _=>ff) (fun _ _ _ _ _=>ff) (fun _ _ _=>ff) (fun _ _=>ff) (fun _ _ _ _=>ff) (fun _ _=>ff) (fun _ _=>ff) k (fun _=>ff) (fun _=>ff) (fun _=>ff) h
noncomputable def onReturn (e:PySem.Stmt) (f:(Option Expr)→Pos→Bool):Bool:=@PySem.Stmt.casesOn (fun _=>Bool) e (fun _ _ _ _ _ _ _ _ _ _=>false) (fun _ _ _ _ _ _ _ _ _ _=>false) (fun _ _ _ _ _ _ _ _ _ _ _=>false) f (fun _ _=>false) (fun _ _ _=>false) (fun _ _ _ _ _ _ _=>false) (fun _ _ _ _=>false) (fun _ _ _ _ _=>false) (fun _ _ _ _ _=>false) (fun _ _ _ _ _=>false) (fun _ _ _ _=>false) (fun _ _ _ _=>false) (fun _ _ _=>false) (fun _ _ _=>false) (fun _ _ _=>false) (fun _ _ _=>false) (fun _ _ _ _ _=>false) (fun _ _ _ _ _=>false) (fun _ _ _=>false) (fun _ _=>false) (fun _ _ _ _=>false) (fun _ _=>false) (fun _ _=>false) (fun _ _=>false) (fun _=>false) (fun _=>false) (fun _=>false)
theorem onReturn_k {P:PySem.Stmt→Prop} {e:PySem.Stmt} {f:(Option Expr)→Pos→Bool} (h:onReturn e f=true) (k:∀ a0 a1,f a0 a1=true→P (.Return a0 a1)):P e :=
 @PySem.Stmt.casesOn (fun e=>onReturn e f=true→P e) e (fun _ _ _ _ _ _ _ _ _ _=>ff) (fun _ _ _ _ _ _ _ _ _ _=>ff) (fun _ _ _ _ _ _ _ _ _ _ _=>ff) k (fun _ _=>ff) (fun _ _ _=>ff) (fun _ _ _ _ _ _ _=>ff) (fun _ _ _ _=>ff) (fun _ _ _ _ _=>ff) (fun _ _ _ _ _=>ff) (fun _ _ _ _ _=>ff) (fun _ _ _ _=>ff) (fun _ _ _ _=>ff) (fun _ _ _=>ff) (fun _ _ _=>ff) (fun _ _ _=>ff) (fun _ _ _=>ff) (fun _ _ _ _ _=>ff) (fun _ _ _ _ _=>ff) (fun _ _ _=>ff) (fun _ _=>ff) (fun _ _ _ _=>ff) (fun _ _=>ff) (fun _ _=>ff) (fun _ _=>ff) (fun _=>ff) (fun _=>ff) (fun _=>ff) h
noncomputable def onIf (e:PySem.Stmt) (f:Expr→(List Stmt)→(List Stmt)→Pos→Bool):Bool:=@PySem.Stmt.casesOn (fun _=>Bool) e (fun _ _ _ _ _ _ _ _ _ _=>false) (fun _ _ _ _ _ _ _ _ _ _=>false) (fun _ _ _ _ _ _ _ _ _ _ _=>false) (fun _ _=>false) (fun _ _=>false) (fun _ _ _=>false) (fun _ _ _ _ _ _ _=>false) (fun _ _ _ _=>false) (fun _ _ _ _ _=>false) (fun _ _ _ _ _=>false) (fun _ _ _ _ _=>false) (fun _ _ _ _=>false) f (fun _ _ _=>false) (fun _ _ _=>false) (fun _ _ _=>false) (fun _ _ _=>false) (fun _ _ _ _ _=>false) (fun _ _ _ _ _=>false) (fun _ _ _=>false) (fun _ _=>false) (fun _ _ _ _=>false) (fun _ _=>false) (fun _ _=>false) (fun _ _=>false) (fun _=>false) (fun _=>false) (fun _=>false)
theorem onIf_k {P:PySem.Stmt→Prop} {e:PySem.Stmt} {f:Expr→(List Stmt)→(List Stmt)→Pos→Bool} (h:onIf e f=true) (k:∀ a0 a1 a2 a3,f a0 a1 a2 a3=true→P (.If a0 a1 a2 a3)):P e :=
 @PySem.Stmt.casesOn (fun e=>onIf e f=true→P e) e (fun _ _ _ _ _ _ _ _ _ _=>ff) (fun _ _ _ _ _ _ _ _ _ _=>ff) (fun _ _ _ _ _ _ _ _ _ _ _=>ff) (fun _ _=>ff) (fun _ _=>ff) (fun _ _ _=>ff) (fun _ _ _ _ _ _ _=>ff) (fun _ _ _ _=>ff) (fun _ _ _ _ _=>ff) (fun _ _ _ _ _=>ff) (fun _ _ _ _ _=>ff) (fun _ _ _ _=>ff) k (fun _ _ _=>ff) (fun _ _ _=>ff) (fun _ _ _=>ff) (fun _ _ _=>ff) (fun _ _ _ _ _=>ff) (fun _ _ _ _ _=>ff) (fun _ _ _=>ff) (fun _ _=>ff) (fun _ _ _ _=>ff) (fun _ _=>ff) (fun _ _=>ff) (fun _ _=>ff) (fun _=>ff) (fun _=>ff) (fun _=>ff) h
noncomputable def onWhile (e:PySem.Stmt) (f:Expr→(List Stmt)→(List Stmt)→Pos→Bool):Bool:=@PySem.Stmt.casesOn (fun _=>Bool) e (fun _ _ _ _ _ _ _ _ _ _=>false) (fun _ _ _ _ _ _ _ _ _ _=>false) (fun _ _ _ _ _ _ _ _ _ _ _=>false) (fun _ _=>false) (fun _ _=>false) (fun _ _ _=>false) (fun _ _ _ _ _ _ _=>false) (fun _ _ _ _=>false) (fun _ _ _ _ _=>false) (fun _ _ _ _ _=>false) (fun _ _ _ _ _=>false) f (fun _ _ _ _=>false) (fun _ _ _=>false) (fun _ _ _=>false) (fun _ _ _=>false) (fun _ _ _=>false) (fun _ _ _ _ _=>false) (fun _ _ _ _ _=>false) (fun _ _ _=>false) (fun _ _=>false) (fun _ _ _ _=>false) (fun _ _=>false) (fun _ _=>false) (fun _ _=>false) (fun _=>false) (fun _=>false) (fun _=>false)
theorem onWhile_k {P:PySem.Stmt→Prop} {e:PySem.Stmt} {f:Expr→(List Stmt)→(List Stmt)→Pos→Bool} (h:onWhile e f=true) (k:∀ a0 a1 a2 a3,f a0 a1 a2 a3=true→P (.While a0 a1 a2 a3)):P e :=
 @PySem.Stmt.casesOn (fun e=>onWhile e f=true→P e) e (fun _ _ _ _ _ _ _ _ _ _=>ff) (fun _ _ _ _ _ _ _ _ _ _=>ff) (fun _ _ _ _ _ _ _ _ _ _ _=>ff) (fun _ _=>ff) (fun _ _=>ff) (fun _ _ _=>ff) (fun _ _ _ _ _ _ _=>ff) (fun _ _ _ _=>ff) (fun _ _ _ _ _=>ff) (fun _ _ _ _ _=>ff) (fun _ _ _ _ _=>ff) k (fun _ _ _ _=>ff) (fun _ _ _=>ff) (fun _ _ _=>ff) (fun _ _ _=>ff) (fun _ _ _=>ff) (fun _ _ _ _ _=>ff) (fun _ _ _ _ _=>ff) (fun _ _ _=>ff) (fun _ _=>ff) (fun _ _ _ _=>ff) (fun _ _=>ff) (fun _ _=>ff) (fun _ _=>ff) (fun _=>ff) (fun _=>ff) (fun _=>ff) h
noncomputable def onFor (e:PySem.Stmt) (f:Expr→Expr→(List Stmt)→(List Stmt)→Pos→Bool):Bool:=@PySem.Stmt.casesOn (fun _=>Bool) e (fun _ _ _ _ _ _ _ _ _ _=>false) (fun _ _ _ _ _ _ _ _ _ _=>false) (fun _ _ _ _ _ _ _ _ _ _ _=>false) (fun _ _=>false) (fun _ _=>false) (fun _ _ _=>false) (fun _ _ _ _ _ _ _=>false) (fun _ _ _ _=>false) (fun _ _ _ _ _=>false) f (fun _ _ _ _ _=>false) (fun _ _ _ _=>false) (fun _ _ _ _=>false) (fun _ _ _=>false) (fun _ _ _=>false) (fun _ _ _=>false) (fun _ _ _=>false) (fun _ _ _ _ _=>false) (fun _ _ _ _ _=>false) (fun _ _ _=>false) (fun _ _=>false) (fun _ _ _ _=>false) (fun _ _=>false) (fun _ _=>false) (fun _ _=>false) (fun _=>false) (fun _=>false) (fun _=>false)
theorem onFor_k {P:PySem.Stmt→Prop} {e:PySem.Stmt} {f:Expr→Expr→(List Stmt)→(List Stmt)→Pos→Bool} (h:onFor e f=true) (k:∀ a0 a1 a2 a3 a4,f a0 a1 a2 a3 a4=true→P (.For a0 a1 a2 a3 a4)):P e :=
 @PySem.Stmt.casesOn (fun e=>onFor e f=true→P e) e (fun _ _ _ _ _ _ _ _ _ _=>ff) (fun _ _ _ _ _ _ _ _ _ _=>ff) (fun _ _ _ _ _ _ _ _ _ _ _=>ff) (fun _ _=>ff) (fun _ _=>ff) (fun _ _ _=>ff) (fun _ _ _ _ _ _ _=>ff) (fun _ _ _ _=>ff) (fun _ _ _ _ _=>ff) k (fun _ _ _ _ _=>ff) (fun _ _ _ _=>ff) (fun _ _ _ _=>ff) (fun _ _ _=>ff) (fun _ _ _=>ff) (fun _ _ _=>ff) (fun _ _ _=>ff) (fun _ _ _ _ _=>ff) (fun _ _ _ _ _=>ff) (fun _ _ _=>ff) (fun _ _=>ff) (fun _ _ _ _=>ff) (fun _ _=>ff) (fun _ _=>ff) (fun _ _=>ff) (fun _=>ff) (fun _=>ff) (fun _=>ff) h
noncomputable def onRaise (e:PySem.Stmt) (f:(Option Expr)→(Option Expr)→Pos→Bool):Bool:=@PySem.Stmt.casesOn (fun _=>Bool) e (fun _ _ _ _ _ _ _ _ _ _=>false) (fun _ _ _ _ _ _ _ _ _ _=>false) (fun _ _ _ _ _ _ _ _ _ _ _=>false) (fun _ _=>false) (fun _ _=>false) (fun _ _ _=>false) (fun _ _ _ _ _ _ _=>false) (fun _ _ _ _=>false) (fun _ _ _ _ _=>false) (fun _ _ _ _ _=>false) (fun _ _ _ _ _=>false) (fun _ _ _ _=>false) (fun _ _ _ _=>false) (fun _ _ _=>false) (fun _ _ _=>false) (fun _ _ _=>false) f (fun _ _ _ _ _=>false) (fun _ _ _ _ _=>false) (fun _ _ _=>false) (fun _ _=>false) (fun _ _ _ _=>false) (fun _ _=>false) (fun _ _=>false) (fun _ _=>false) (fun _=>false) (fun _=>false) (fun _=>false)
theorem onRaise_k {P:PySem.Stmt→Prop} {e:PySem.Stmt} {f:(Option Expr)→(Option Expr)→Pos→Bool} (h:onRaise e f=true) (k:∀ a0 a1 a2,f a0 a1 a2=true→P (.Raise a0 a1 a2)):P e :=
 @PySem.Stmt.casesOn (fun e=>onRaise e f=true→P e) e (fun _ _ _ _ _ _ _ _ _ _=>ff) (fun _ _ _ _ _ _ _ _ _ _=>ff) (fun _ _ _ _ _ _ _ _ _ _ _=>ff) (fun _ _=>ff) (fun _ _=>ff) (fun _ _ _=>ff) (fun _ _ _ _ _ _ _=>ff) (fun _ _ _ _=>ff) (fun _ _ _ _ _=>ff) (fun _ _ _ _ _=>ff) (fun _ _ _ _ _=>ff) (fun _ _ _ _=>ff) (fun _ _ _ _=>ff) (fun _ _ _=>ff) (fun _ _ _=>ff) (fun _ _ _=>ff) k (fun _ _ _ _ _=>ff) (fun _ _ _ _ _=>ff) (fun _ _ _=>ff) (fun _ _=>ff) (fun _ _ _ _=>ff) (fun _ _=>ff) (fun _ _=>ff) (fun _ _=>ff) (fun _=>ff) (fun _=>ff) (fun _=>ff) h
noncomputable def onTry (e:PySem.Stmt) (f:(List Stmt)→(List ExceptHandler)→(List Stmt)→(List Stmt)→Pos→Bool):Bool:=@PySem.Stmt.casesOn (fun _=>Bool) e (fun _ _ _ _ _ _ _ _ _ _=>false) (fun _ _ _ _ _ _ _ _ _ _=>false) (fun _ _ _ _ _ _ _ _ _ _ _=>false) (fun _ _=>false) (fun _ _=>false) (fun _ _ _=>false) (fun _ _ _ _ _ _ _=>false) (fun _ _ _ _=>false) (fun _ _ _ _ _=>false) (fun _ _ _ _ _=>false) (fun _ _ _ _ _=>false) (fun _ _ _ _=>false) (fun _ _ _ _=>false) (fun _ _ _=>false) (fun _ _ _=>false) (fun _ _ _=>false) (fun _ _ _=>false) f (fun _ _ _ _ _=>false) (fun _ _ _=>false) (fun _ _=>false) (fun _ _ _ _=>false) (fun _ _=>false) (fun _ _=>false) (fun _ _=>false) (fun _=>false) (fun _=>false) (fun _=>false)
theorem onTry_k {P:PySem.Stmt→Prop} {e:PySem.Stmt} {f:(List Stmt)→(List ExceptHandler)→(List Stmt)→(List Stmt)→Pos→Bool} (h:onTry e f=true) (k:∀ a0 a1 a2 a3 a4,f a0 a1 a2 a3 a4=true→P (.Try a0 a1 a2 a3 a4)):P e :=
 @PySem.Stmt.casesOn (fun e=>onTry e f=true→P e) e (fun _ _ _ _ _ _ _ _ _ _=>ff) (fun _ _ _ _ _ _ _ _ _ _=>ff) (fun _ _ _ _ _ _ _ _ _ _ _=>ff) (fun _ _=>ff) (fun _ _=>ff) (fun _ _ _=>ff) (fun _ _ _ _ _ _ _=>ff) (fun _ _ _ _=>ff) (fun _ _ _ _ _=>ff) (fun _ _ _ _ _=>ff) (fun _ _ _ _ _=>ff) (fun _ _ _ _=>ff) (fun _ _ _ _=>ff) (fun _ _ _=>ff) (fun _ _ _=>ff) (fun _ _ _=>ff) (fun _ _ _=>ff) k (fun _ _ _ _ _=>ff) (fun _ _ _=>ff) (fun _ _=>ff) (fun _ _ _ _=>ff) (fun _ _=>ff) (fun _ _=>ff) (fun _ _=>ff) (fun _=>ff) (fun _=>ff) (fun _=>ff) h
noncomputable def onBreak (e:PySem.Stmt) (f:Pos→Bool):Bool:=@PySem.Stmt.casesOn (fun _=>Bool) e (fun _ _ _ _ _ _ _ _ _ _=>false) (fun _ _ _ _ _ _ _ _ _ _=>false) (fun _ _ _ _ _ _ _ _ _ _ _=>false) (fun _ _=>false) (fun _ _=>false) (fun _ _ _=>false) (fun _ _ _ _ _ _ _=>false) (fun _ _ _ _=>false) (fun _ _ _ _ _=>false) (fun _ _ _ _ _=>false) (fun _ _ _ _ _=>false) (fun _ _ _ _=>false) (fun _ _ _ _=>false) (fun _ _ _=>false) (fun _ _ _=>false) (fun _ _ _=>false) (fun _ _ _=>false) (fun _ _ _ _ _=>false) (fun _ _ _ _ _=>false) (fun _ _ _=>false) (fun _ _=>false) (fun _ _ _ _=>false) (fun _ _=>false) (fun _ _=>false) (fun _ _=>false) (fun _=>false) f (fun _=>false)
theorem onBreak_k {P:PySem.Stmt→Prop} {e:PySem.Stmt} {f:Pos→Bool} (h:onBreak e f=true) (k:∀ a0,f a0=true→P (.Break a0)):P e :=
 @PySem.Stmt.casesOn (fun e=>onBreak e f=true→P e) e (fun _ _ _ _ _ _ _ _ _ _=>ff) (fun _ _ _ _ _ _ _ _ _ _=>ff) (fun _ _ _ _ _ _ _ _ _ _ _=>ff) (fun _ _=>ff) (fun _ _=>ff) (fun _ _ _=>ff) (fun _ _ _ _ _ _ _=>ff) (fun _ _ _ _=>ff) (fun _ _ _ _ _=>ff) (fun _ _ _ _ _=>ff) (fun _ _ _ _ _=>ff) (fun _ _ _ _=>ff) (fun _ _ _ _=>ff) (fun _ _ _=>ff) (fun _ _ _=>ff) (fun _ _ _=>ff) (fun _ _ _=>ff) (fun _ _ _ _ _=>ff) (fun _ _ _ _ _=>ff) (fun _ _ _=>ff) (fun _ _=>ff) (fun _ _ _ _=>ff) (fun _ _=>ff) (fun _ _=>ff) (fun _ _=>ff) (fun _=>ff) k (fun _=>ff) h
noncomputable def onExceptHandler (e:PySem.ExceptHandler) (f:(Option Expr)→(Option Str)→(List Stmt)→Pos→Bool):Bool:=@PySem.ExceptHandler.casesOn (fun _=>Bool) e f
theorem onExceptHandler_k {P:PySem.ExceptHandler→Prop} {e:PySem.ExceptHandler} {f:(Option Expr)→(Option Str)→(List Stmt)→Pos→Bool} (h:onExceptHandler e f=true) (k:∀ a0 a1 a2 a3,f a0 a1 a2 a3=true→P (.ExceptHandler a0 a1 a2 a3)):P e :=
 @PySem.ExceptHandler.casesOn (fun e=>onExceptHandler e f=true→P e) e k h
noncomputable def onL0 {α:Type} (e:List α) (b:Bool):Bool:=@List.casesOn α (fun _=>Bool) e b fun _ _=>false
theorem onL0_k {α:Type} {P:List α→Prop} {e:List α} {b:Bool} (h:onL0 e b=true) (k:b=true→P []):P e :=
 @List.casesOn α (fun e=>onL0 e b=true→P e) e k (fun _ _=>ff) h
noncomputable def onL1 {α:Type} (e:List α) (f:α→Bool):Bool:=@List.casesOn α (fun _=>Bool) e false fun a r=>onL0 r (f a)
theorem onL1_k {α:Type} {P:List α→Prop} {e:List α} {f:α→Bool} (h:onL1 e f=true) (k:∀ a,f a=true→P [a]):P e :=
 @List.casesOn α (fun e=>onL1 e f=true→P e) e ff (fun a r h=>onL0_k (P:=fun r=>P (a::r)) h (k a)) h
noncomputable def onL2 {α:Type} (e:List α) (f:α→α→Bool):Bool:=@List.casesOn α (fun _=>Bool) e false fun a r=>onL1 r (f a)
theorem onL2_k {α:Type} {P:List α→Prop} {e:List α} {f:α→α→Bool} (h:onL2 e f=true) (k:∀ a b,f a b=true→P [a,b]):P e :=
 @List.casesOn α (fun e=>onL2 e f=true→P e) e ff (fun a r h=>onL1_k (P:=fun r=>P (a::r)) h (k a)) h
noncomputable def onNone {α:Type} (e:Option α) (b:Bool):Bool:=@Option.casesOn α (fun _=>Bool) e b fun _=>false
theorem onNone_k {α:Type} {P:Option α→Prop} {e:Option α} {b:Bool} (h:onNone e b=true) (k:b=true→P none):P e :=
 @Option.casesOn α (fun e=>onNone e b=true→P e) e k (fun _=>ff) h
noncomputable def onSome {α:Type} (e:Option α) (f:α→Bool):Bool:=@Option.casesOn α (fun _=>Bool) e false f
theorem onSome_k {α:Type} {P:Option α→Prop} {e:Option α} {f:α→Bool} (h:onSome e f=true) (k:∀ a,f a=true→P (some a)):P e :=
 @Option.casesOn α (fun e=>onSome e f=true→P e) e ff k h
noncomputable def onZero (e:Int) (b:Bool):Bool:=decide (e=0) && b
theorem onZero_k {P:Int→Prop} {e:Int} {b:Bool} (h:onZero e b=true) (k:b=true→P 0):P e:=of_decide_eq_true (aL h) ▸ k (aR h)
noncomputable def onGen (e:Comprehension) (f:PySem.Expr→PySem.Expr→List PySem.Expr→Int→Bool):Bool:=f e.target e.iter e.ifs e.is_async
theorem onGen_k {P:Comprehension→Prop} {e:Comprehension} {f:PySem.Expr→PySem.Expr→List PySem.Expr→Int→Bool} (h:onGen e f=true) (k:∀ a b c d,f a b c d=true→P ⟨a,b,c,d⟩):P e:=by cases e; exact k _ _ _ _ h
noncomputable def onLitB (e:CE) (f:List Int→Bool):Bool:=match e with | .lit v=>(match v with | .bytes l=>f l | _=>false) | _=>false
theorem onLitB_k {P:CE→Prop} {e:CE} {f:List Int→Bool} (h:onLitB e f=true) (k:∀ l,f l=true→P (.lit (.bytes l))):P e:=by
 cases e with
 | lit v=>cases v <;> first | exact k _ h | exact ff h
 | _=>exact ff h
noncomputable def litOk (c:Const):PV→Bool
 | .none=>decide (c=.none)
 | .bool b=>decide (c=.bool b)
 | .int i=>decide (c=.int i)
 | .str s=>onstr c fun a=>a.cps.toList == s
 | .bytes l=>onbytes c fun a=>(a.map fun c=>(c.toNat:Int)) == l
 | .flt _=>false
 | .tuple _=>false
 | .list _=>false
 | .dict0=>false
noncomputable def chkTs (N:Nm) (es:List Expr):List Ty→Bool
 | []=>onL0 es true
 | t::u=>match es with
  | []=>false
  | e::r=>onName e fun y _=>N.isWord y (tyName t) && chkTs N r u
mutual
noncomputable def chkE (N:Nm) (e:Expr):CE→Bool
 | .lit v=>(onConstant e fun c k p=>(litOk c v && shortLit v))
 | .neg n=>(onUnaryOp e fun z1 z2 q=>(onUSub z1 (onConstant z2 fun z3 k p=>(onint z3 fun i=>((i == (n:Int)))))))
 | .var i=>(onName e fun x p=>(N.isVar x i))
 | .glob i=>(onName e fun x p=>((N.gs[i]? == some x) && N.isGlob x))
 | .strFlt s x=>(onTuple e fun z4 k3 p3=>(onL2 z4 fun z5 z6=>(onConstant z5 fun z7 k p=>(onstr z7 fun a=>(onConstant z6 fun z8 k2 p2=>(onfloat z8 fun b=>((a.cps.toList == s) && (b == x))))))))
 | .tup l=>(onTuple e fun es k p=>(chkEs N es l))
 | .lst l=>(onList e fun es p=>(chkEs N es l))
 | .bin o a b=>(onBinOp e fun l op r p=>(bopOk op o && chkE N l a && chkE N r b))
 | .cmp o a b=>(onCompare e fun l z9 z10 p=>(onL1 z9 fun op=>(onL1 z10 fun r=>(copOk op o && chkE N l a && chkE N r b && (!behindInMarks op r)))))
 | .cmp2 o p a b c=>(onCompare e fun l z11 z12 ps=>(onL2 z11 fun op oq=>(onL2 z12 fun r q=>(copOk op o && copOk oq p && chkE N l a && chkE N r b && chkE N q c && (!behindInMarks oq q)))))
 | .and_ l=>(onBoolOp e fun z13 es p=>(onAnd z13 (chkEs N es l)))
 | .or_ l=>(onBoolOp e fun z14 es p=>(onOr z14 (chkEs N es l)))
 | .not_ a=>(onUnaryOp e fun z15 x p=>(onNot z15 (chkE N x a)))
 | .ite c x y=>(onIfExp e fun t b o p=>(chkE N t c && chkE N b x && chkE N o y))
 | .slc a l u=>(onSubscript e fun v z16 q=>(onSlice z16 fun lo hi z17 p=>(onNone z17 (chkE N v a && chkO N lo l && chkO N hi u))))
 | .idx a j=>(onSubscript e fun v i p=>(chkE N v a && chkE N i j && notSlice i))
 | .len a => (onCall e fun z18 z19 z20 p => (onName z18 fun x xp => (onL1 z19 fun e1 => (onL0 z20 (N.isWord x "len" && chkE N e1 a && notStar e1)))))
 | .isin a l => (onCall e fun z21 z22 z23 q => (onName z21 fun x xp => (onL2 z22 fun e1 z24 => (onTuple z24 fun ts k p => (onL0 z23 (N.isWord x "isinstance" && chkE N e1 a && chkTs N ts l && decide (l.length ≤ 1048576) && notStar e1))))))
 | .isin1 a t => (onCall e fun z25 z26 z27 q => (onName z25 fun x xp => (onL2 z26 fun e1 z28 => (onName z28 fun y p => (onL0 z27 (N.isWord x "isinstance" && chkE N e1 a && N.isWord y (tyName t) && notStar e1))))))
 | .mkBytes a => (onCall e fun z29 z30 z31 p => (onName z29 fun x xp => (onL1 z30 fun e1 => (onL0 z31 (N.isWord x "bytes" && chkE N e1 a && notStar e1)))))
 | .typeIs a t => (onCompare e fun z32 z33 z34 r => (onCall z32 fun z35 z36 z37 p => (onName z35 fun x xp => (onL1 z36 fun e1 => (onL0 z37 (onL1 z33 fun z38 => (onIs z38 (onL1 z34 fun z39 => (onName z39 fun y q => (N.isWord x "type" && chkE N e1 a && N.isWord y (tyName t) && notStar e1))))))))))
 | .call f args=>(onCall e fun z40 es z41 p=>(onName z40 fun x xp=>(onL0 z41 ((N.fs[f]? == some x) && N.isGlob x && chkEs N es args && (!es.isEmpty)))))
 | .join s a => (onLitB s fun l => (onCall e fun z42 z43 z44 q => (onAttribute z42 fun z45 m ap => (onConstant z45 fun z46 k p => (onbytes z46 fun b => (onL1 z43 fun e1 => (onL0 z44 ((m == Str.ofString "join") && litOk (.bytes b) (.bytes l) && chkE N e1 a && (ap.endLine == q.line) && notStar e1))))))))
 | .comp e1 src cond=>(onNone cond (onListComp e fun elt z47 sc q=>(onL1 z47 fun z48=>(onGen z48 fun z49 it z50 z51=>(onName z49 fun x p=>(onL0 z50 (onZero z51 (chkE N it src && compOk sc && N.isVarIn sc x && chkE ⟨sc.names,[x],N.fs,N.gs⟩ elt e1 && notSet it))))))))
 | .dict0=>onDict e fun k v _=>onL0 k (onL0 v true)
noncomputable def chkO (N:Nm) (e:Option Expr):Option CE→Bool
 | none=>onNone e true
 | some c=>onSome e fun x=>chkE N x c
noncomputable def chkEs (N:Nm) (es:List Expr):List CE→Bool
 | []=>onL0 es true
 | c::t=>match es with
  | []=>false
  | e::r=>chkE N e c && notStar e && chkEs N r t
end
noncomputable def chkNs (N:Nm) (es:List Expr):List Nat→Bool
 | []=>onL0 es true
 | i::t=>match es with
  | []=>false
  | e::r=>onName e fun x _=>N.isVar x i && chkNs N r t
noncomputable def notComp (e:Expr):Bool:=@PySem.Expr.casesOn (fun _=>Bool) e (fun _ _ _=>true) (fun _ _ _=>true) (fun _ _ _ _=>true) (fun _ _ _=>true) (fun _ _ _ _=>true) (fun _ _ _ _=>true) (fun _ _ _=>true) (fun _ _ _=>true) (fun _ _ _ _=>false) (fun _ _ _ _=>false) (fun _ _ _ _ _=>false) (fun _ _ _ _=>true) (fun _ _=>true) (fun _ _=>true) (fun _ _=>true) (fun _ _ _ _=>true) (fun _ _ _ _=>true) (fun _ _ _ _=>true) (fun _ _=>true) (fun _ _ _=>true) (fun _ _ _=>true) (fun _ _ _=>true) (fun _ _=>true) (fun _ _=>true) (fun _ _=>true) (fun _ _ _=>true) (fun _ _ _ _=>true)
noncomputable def swP (loc:Str→Bool) (fn:Bool) (targets:List Expr) (value:Expr):Option (Option (List Str)) :=
 match (match targets,value with
  | [.Tuple ts _ _],.Tuple vs _ _ | [.List ts _],.Tuple vs _ _=>some (ts,vs)
  | _,_=>none) with
 | none=>some none
 | some (ts,vs) =>
  if !(ts.length == 2 || ts.length == 3) || vs.length != ts.length || !fn then some none
  else if vs.any (fun | .Starred ..=>true | _=>false) then some none
  else
   let line:=(ts.head?.map (·.pos.line)).getD 0
   let names:=ts.filterMap fun
    | .Name id pos=>if loc id && pos.line == line then some id else none
    | _=>none
   if names.length != ts.length || names.eraseDups.length != names.length then some none
   else if vs.all (foldedForSure 8) then some none
   else if vs.all (constantsAlone 8) then none
   else some (some names)
noncomputable def swOk (N:Nm) (rev:Bool) (targets:List Expr) (value:Expr) (is:List Nat):Bool :=
 match swP (fun x=>N.names.lookup x == some .local) true targets value with
 | some none=>!rev
 | some (some ns)=>rev && ns.map some == is.map (fun i=>N.vs[i]?)
 | none=>false
noncomputable def compLine (x:Str) (tp:Pos) (e:Expr):Bool:=onListComp e fun _ _ sc p=>tp.line == p.line && !(sc.names.any fun q=>q.1 == x && (q.2 == .local || q.2 == .cell))
mutual
noncomputable def chkS (N:Nm) (e:Stmt):CS→Bool
 | .assign i c=>(onAssign e fun z1 v p=>(onL1 z1 fun z2=>(onName z2 fun x tp=>(N.isVar x i && chkE N v c && (notComp v || compLine x tp v)))))
 | .own i l=>(onAssign e fun z3 z4 p=>(onL1 z3 fun z5=>(onName z5 fun x tp=>(onList z4 fun es lp=>(N.isVar x i && chkEs N es l)))))
 | .assignT rev is c=>(onAssign e fun z6 v p=>(onL1 z6 fun z7=>(onTuple z7 fun ts k tp=>(chkNs N ts is && chkE N v c && notComp v && swOk N rev [.Tuple ts k tp] v is))))
 | .aug i o c=>(onAugAssign e fun z8 op v p=>(onName z8 fun x tp=>(N.isVar x i && bopOk op o && chkE N v c)))
 | .app i c => (onExpr e fun z9 p => (onCall z9 fun z10 z11 z12 q => (onAttribute z10 fun z13 m ap => (onName z13 fun x xp => (onL1 z11 fun v => (onL0 z12 (N.isVar x i && (m == Str.ofString "append") && chkE N v c && (ap.endLine == q.line) && notStar v)))))))
 | .expr c=>(onExpr e fun v p=>(chkE N v c && notComp v))
 | .ret c=>(onReturn e fun z14 p=>(onSome z14 fun v=>(chkE N v c)))
 | .if_ c x y=>(onIf e fun t b o p=>(chkE N t c && chkSs N b x && chkSs N o y))
 | .while_ c x=>(onWhile e fun t b z15 p=>(onL0 z15 (chkE N t c && chkSs N b x)))
 | .forR i c y => (onFor e fun z16 z17 b z18 p => (onName z16 fun x xp => (onCall z17 fun z19 z20 z21 q => (onName z19 fun r rp => (onL1 z20 fun v => (onL0 z21 (onL0 z18 (N.isVar x i && N.isWord r "range" && chkE N v c && chkSs N b y && notStar v))))))))
 | .for_ i c y=>(onFor e fun z22 v b z23 p=>(onName z22 fun x xp=>(onL0 z23 (N.isVar x i && chkE N v c && chkSs N b y && notSet v))))
 | .forT is c y=>(onFor e fun z24 v b z25 p=>(onTuple z24 fun ts k tp=>(onL0 z25 (chkNs N ts is && chkE N v c && chkSs N b y && notSet v))))
 | .try_ i c j w => (onTry e fun z26 z27 z28 z29 p => (onL1 z26 fun z30 => (onAssign z30 fun z31 v ap => (onL1 z31 fun z32 => (onName z32 fun x xp => (onL1 z27 fun z33 => (onExceptHandler z33 fun z34 z35 z36 hp => (onSome z34 fun z37 => (onName z37 fun n np => (onNone z35 (onL1 z36 fun z38 => (onAssign z38 fun z39 z40 bp => (onL1 z39 fun z41 => (onName z41 fun y yp => (onConstant z40 fun k kk kp => (onL0 z28 (onL0 z29 (N.isVar x i && chkE N v c && notComp v && N.isWord n "ValueError" && N.isVar y j && litOk k w && shortLit w))))))))))))))))))
 | .raise_ => (onRaise e fun z42 z43 p => (onSome z42 fun z44 => (onCall z44 fun z45 z46 z47 q => (onName z45 fun x xp => (onL1 z46 fun z48 => (onConstant z48 fun z49 kk kp => (onstr z49 fun t => (onL0 z47 (onNone z43 (N.isWord x "ValueError"))))))))))
 | .brk=>onBreak e fun _=>true
 | .frz _=>false
noncomputable def chkSs (N:Nm) (ss:List Stmt):List CS→Bool
 | []=>onL0 ss true
 | c::t=>(match c with
  | .frz i=>decide (i<N.vs.length) && chkSs N ss t
  | c=>match ss with
   | []=>false
   | s::r=>chkS N s c && chkSs N r t)
end
end Mine
namespace Mine
open PySem
noncomputable def digR:Nat→Nat→List Int
 | 0,_=>[]
 | k+1,n=>if n=0 then [] else ((48+n % 10:Nat):Int)::digR k (n / 10)
noncomputable def decD (n:Nat):List Int:=if n=0 then [48] else (digR (n+1) n).reverse
noncomputable def nf_decimal:List PV→Res PV
 | [.int n]=>if 0≤n∧n<4294967296 then .ok (.bytes (decD n.toNat)) else .stuck
 | _=>.stuck
noncomputable def vf_need : List Str := [Str.ofString "condition"]
noncomputable def cf_need:List CS:=[.if_ (.not_ (.var 0)) [.raise_] []]
noncomputable def vf_is_digit : List Str := [Str.ofString "x"]
noncomputable def cf_is_digit:List CS:=[.ret (.cmp2 .le .le (.lit (.int 48)) (.var 0) (.lit (.int 57)))]
noncomputable def vf_is_letter : List Str := [Str.ofString "x"]
noncomputable def cf_is_letter:List CS:=[.if_ (.cmp2 .le .le (.lit (.int 65)) (.var 0) (.lit (.int 90))) [.ret (.lit (.bool true))] [],.ret (.cmp2 .le .le (.lit (.int 97)) (.var 0) (.lit (.int 122)))]
noncomputable def vf_is_tag_char : List Str := [Str.ofString "x"]
noncomputable def cf_is_tag_char:List CS:=[.if_ (.call 2 [(.var 0)]) [.ret (.lit (.bool true))] [],.if_ (.call 1 [(.var 0)]) [.ret (.lit (.bool true))] [],.ret (.cmp .eq (.var 0) (.lit (.int 45)))]
noncomputable def vf_is_atom_char : List Str := [Str.ofString "x"]
noncomputable def cf_is_atom_char:List CS:=[.if_ (.or_ [(.cmp .lt (.var 0) (.lit (.int 33))),(.cmp .gt (.var 0) (.lit (.int 126)))]) [.ret (.lit (.bool false))] [],.ret (.cmp .notIn (.var 0) (.tup [(.lit (.int 34)),(.lit (.int 37)),(.lit (.int 40)),(.lit (.int 41)),(.lit (.int 42)),(.lit (.int 92)),(.lit (.int 93)),(.lit (.int 123))]))]
noncomputable def vf_all_digits : List Str := [Str.ofString "b",Str.ofString "x"]
noncomputable def cf_all_digits:List CS:=[.if_ (.cmp .eq (.len (.var 0)) (.lit (.int 0))) [.ret (.lit (.bool false))] [],.for_ 1 (.var 0) [.if_ (.not_ (.call 1 [(.var 1)])) [.ret (.lit (.bool false))] []],.ret (.lit (.bool true))]
noncomputable def vf_digits_value : List Str := [Str.ofString "b",Str.ofString "n",Str.ofString "x"]
noncomputable def cf_digits_value:List CS:=[.assign 1 (.lit (.int 0)),.for_ 2 (.var 0) [.assign 1 (.bin .add (.bin .mul (.var 1) (.lit (.int 10))) (.bin .sub (.var 2) (.lit (.int 48)))),.if_ (.cmp .ge (.var 1) (.glob 0)) [.assign 1 (.glob 0)] []],.ret (.var 1)]
noncomputable def vf_upper : List Str := [Str.ofString "b"]
noncomputable def cf_upper:List CS:=[.ret (.mkBytes (.comp (.ite (.cmp2 .le .le (.lit (.int 97)) (.var 0) (.lit (.int 122))) (.bin .sub (.var 0) (.lit (.int 32))) (.var 0)) (.var 0) none))]
noncomputable def vf_is_tag : List Str := [Str.ofString "t",Str.ofString "x"]
noncomputable def cf_is_tag:List CS:=[.if_ (.not_ (.isin1 (.var 0) .bytes)) [.ret (.lit (.bool false))] [],.if_ (.cmp .eq (.len (.var 0)) (.lit (.int 0))) [.ret (.lit (.bool false))] [],.for_ 1 (.var 0) [.if_ (.not_ (.call 3 [(.var 1)])) [.ret (.lit (.bool false))] []],.ret (.lit (.bool true))]
noncomputable def vf_is_name : List Str := [Str.ofString "n",Str.ofString "x"]
noncomputable def cf_is_name:List CS:=[.if_ (.not_ (.isin1 (.var 0) .bytes)) [.ret (.lit (.bool false))] [],.if_ (.cmp .eq (.len (.var 0)) (.lit (.int 0))) [.ret (.lit (.bool false))] [],.for_ 1 (.var 0) [.if_ (.not_ (.call 2 [(.var 1)])) [.ret (.lit (.bool false))] []],.ret (.lit (.bool true))]
noncomputable def vf_read_run : List Str := [Str.ofString "data",Str.ofString "at",Str.ofString "letters_only",Str.ofString "size",Str.ofString "q",Str.ofString "x",Str.ofString "ok"]
noncomputable def cf_read_run:List CS:=[.assign 3 (.len (.var 0)),.assign 4 (.var 1),.while_ (.cmp .lt (.var 4) (.var 3)) [.assign 5 (.idx (.var 0) (.var 4)),.if_ (.var 2) [.assign 6 (.call 2 [(.var 5)])] [.assign 6 (.call 3 [(.var 5)])],.if_ (.not_ (.var 6)) [.brk] [],.aug 4 .add (.lit (.int 1))],.if_ (.cmp .eq (.var 4) (.var 3)) [.ret (.lit .none)] [],.expr (.call 0 [(.cmp .gt (.var 4) (.var 1))]),.ret (.tup [(.slc (.var 0) (some (.var 1)) (some (.var 4))),(.var 4)])]
noncomputable def vf_read_crlf : List Str := [Str.ofString "data",Str.ofString "at",Str.ofString "t"]
noncomputable def cf_read_crlf:List CS:=[.assign 2 (.slc (.var 0) (some (.var 1)) (some (.bin .add (.var 1) (.lit (.int 2))))),.expr (.call 0 [(.cmp .eq (.var 2) (.slc (.lit (.bytes [13,10])) none (some (.len (.var 2)))))]),.if_ (.cmp .lt (.len (.var 2)) (.lit (.int 2))) [.ret (.lit .none)] [],.ret (.bin .add (.var 1) (.lit (.int 2)))]
noncomputable def vf_is_atom_text : List Str := [Str.ofString "b",Str.ofString "i"]
noncomputable def cf_is_atom_text:List CS:=[.assign 1 (.lit (.int 0)),.if_ (.and_ [(.cmp .gt (.len (.var 0)) (.lit (.int 0))),(.cmp .eq (.idx (.var 0) (.lit (.int 0))) (.lit (.int 92)))]) [.assign 1 (.lit (.int 1))] [],.if_ (.cmp .ge (.var 1) (.len (.var 0))) [.ret (.lit (.bool false))] [],.while_ (.cmp .lt (.var 1) (.len (.var 0))) [.if_ (.not_ (.call 4 [(.idx (.var 0) (.var 1))])) [.ret (.lit (.bool false))] [],.aug 1 .add (.lit (.int 1))],.ret (.lit (.bool true))]
noncomputable def vf_quotable : List Str := [Str.ofString "b",Str.ofString "x"]
noncomputable def cf_quotable:List CS:=[.if_ (.cmp .gt (.len (.var 0)) (.lit (.int 40))) [.ret (.lit (.bool false))] [],.for_ 1 (.var 0) [.if_ (.or_ [(.cmp .eq (.var 1) (.lit (.int 0))),(.cmp .eq (.var 1) (.lit (.int 10))),(.cmp .eq (.var 1) (.lit (.int 13))),(.cmp .gt (.var 1) (.lit (.int 127)))]) [.ret (.lit (.bool false))] []],.ret (.lit (.bool true))]
noncomputable def vf_quote : List Str := [Str.ofString "b",Str.ofString "out",Str.ofString "x"]
noncomputable def cf_quote:List CS:=[.own 1 [(.lit (.int 34))],.for_ 2 (.var 0) [.if_ (.or_ [(.cmp .eq (.var 2) (.lit (.int 34))),(.cmp .eq (.var 2) (.lit (.int 92)))]) [.app 1 (.lit (.int 92))] [],.app 1 (.var 2)],.app 1 (.lit (.int 34)),.frz 1,.ret (.mkBytes (.var 1))]
noncomputable def vf_write_value : List Str := [Str.ofString "value",Str.ofString "kind",Str.ofString "content",Str.ofString "parts"]
noncomputable def cf_write_value:List CS:=[.expr (.call 0 [(.and_ [(.isin (.var 0) [.tuple,.list]),(.cmp .ge (.len (.var 0)) (.lit (.int 1)))])]),.assign 1 (.idx (.var 0) (.lit (.int 0))),.if_ (.cmp .eq (.var 1) (.lit (.str [110,105,108]))) [.expr (.call 0 [(.cmp .eq (.len (.var 0)) (.lit (.int 1)))]),.ret (.lit (.bytes [78,73,76]))] [],.expr (.call 0 [(.cmp .eq (.len (.var 0)) (.lit (.int 2)))]),.assign 2 (.idx (.var 0) (.lit (.int 1))),.if_ (.cmp .eq (.var 1) (.lit (.str [97,116,111,109]))) [.expr (.call 0 [(.isin1 (.var 2) .bytes)]),.expr (.call 0 [(.call 13 [(.var 2)])]),.expr (.call 0 [(.cmp .ne (.call 8 [(.var 2)]) (.lit (.bytes [78,73,76])))]),.expr (.call 0 [(.not_ (.call 5 [(.var 2)]))]),.ret (.var 2)] [],.if_ (.cmp .eq (.var 1) (.lit (.str [110,117,109,98,101,114]))) [.expr (.call 0 [(.isin1 (.var 2) .int)]),.expr (.call 0 [(.cmp2 .le .lt (.lit (.int 0)) (.var 2) (.glob 0))]),.ret (.call 7 [(.var 2)])] [],.if_ (.cmp .eq (.var 1) (.lit (.str [115,116,114,105,110,103]))) [.expr (.call 0 [(.isin1 (.var 2) .bytes)]),.expr (.call 0 [(.cmp .notIn (.lit (.int 0)) (.var 2))]),.if_ (.call 14 [(.var 2)]) [.ret (.call 15 [(.var 2)])] [],.ret (.bin .add (.bin .add (.bin .add (.lit (.bytes [123])) (.call 7 [(.len (.var 2))])) (.lit (.bytes [125,13,10]))) (.var 2))] [],.if_ (.cmp .eq (.var 1) (.lit (.str [108,105,115,116]))) [.expr (.call 0 [(.isin (.var 2) [.list,.tuple])]),.assign 3 (.comp (.call 16 [(.var 0)]) (.var 2) none),.ret (.bin .add (.bin .add (.lit (.bytes [40])) (.join (.lit (.bytes [32])) (.var 3))) (.lit (.bytes [41])))] [],.raise_]
noncomputable def vf_read_list : List Str := [Str.ofString "data",Str.ofString "p",Str.ofString "depth",Str.ofString "size",Str.ofString "items",Str.ofString "r"]
noncomputable def cf_read_list:List CS:=[.expr (.call 0 [(.cmp .gt (.var 2) (.lit (.int 0)))]),.assign 3 (.len (.var 0)),.own 4 [],.if_ (.cmp .ge (.var 1) (.var 3)) [.ret (.lit .none)] [],.if_ (.cmp .eq (.idx (.var 0) (.var 1)) (.lit (.int 41))) [.frz 4,.ret (.tup [(.tup [(.lit (.str [108,105,115,116])),(.var 4)]),(.bin .add (.var 1) (.lit (.int 1)))])] [],.while_ (.lit (.bool true)) [.assign 5 (.call 21 [(.var 0),(.var 1),(.bin .sub (.var 2) (.lit (.int 1)))]),.if_ (.cmp .is_ (.var 5) (.lit .none)) [.ret (.lit .none)] [],.app 4 (.idx (.var 5) (.lit (.int 0))),.assign 1 (.idx (.var 5) (.lit (.int 1))),.if_ (.cmp .ge (.var 1) (.var 3)) [.ret (.lit .none)] [],.if_ (.cmp .eq (.idx (.var 0) (.var 1)) (.lit (.int 41))) [.frz 4,.ret (.tup [(.tup [(.lit (.str [108,105,115,116])),(.var 4)]),(.bin .add (.var 1) (.lit (.int 1)))])] [],.expr (.call 0 [(.cmp .eq (.idx (.var 0) (.var 1)) (.lit (.int 32)))]),.aug 1 .add (.lit (.int 1))]]
noncomputable def vf_read_quoted : List Str := [Str.ofString "data",Str.ofString "p",Str.ofString "size",Str.ofString "out",Str.ofString "x"]
noncomputable def cf_read_quoted:List CS:=[.assign 2 (.len (.var 0)),.own 3 [],.while_ (.lit (.bool true)) [.if_ (.cmp .ge (.var 1) (.var 2)) [.ret (.lit .none)] [],.assign 4 (.idx (.var 0) (.var 1)),.aug 1 .add (.lit (.int 1)),.if_ (.cmp .eq (.var 4) (.lit (.int 34))) [.frz 3,.ret (.tup [(.tup [(.lit (.str [115,116,114,105,110,103])),(.mkBytes (.var 3))]),(.var 1)])] [],.if_ (.cmp .eq (.var 4) (.lit (.int 92))) [.if_ (.cmp .ge (.var 1) (.var 2)) [.ret (.lit .none)] [],.expr (.call 0 [(.or_ [(.cmp .eq (.idx (.var 0) (.var 1)) (.lit (.int 34))),(.cmp .eq (.idx (.var 0) (.var 1)) (.lit (.int 92)))])]),.assign 4 (.idx (.var 0) (.var 1)),.aug 1 .add (.lit (.int 1))] [.expr (.call 0 [(.and_ [(.cmp2 .lt .lt (.lit (.int 0)) (.var 4) (.lit (.int 128))),(.cmp .ne (.var 4) (.lit (.int 10))),(.cmp .ne (.var 4) (.lit (.int 13)))])])],.app 3 (.var 4)]]
noncomputable def vf_read_literal : List Str := [Str.ofString "data",Str.ofString "p",Str.ofString "size",Str.ofString "q",Str.ofString "n",Str.ofString "t",Str.ofString "body"]
noncomputable def cf_read_literal:List CS:=[.assign 2 (.len (.var 0)),.assign 3 (.var 1),.assign 4 (.lit (.int 0)),.while_ (.and_ [(.cmp .lt (.var 3) (.var 2)),(.call 1 [(.idx (.var 0) (.var 3))])]) [.assign 4 (.bin .add (.bin .mul (.var 4) (.lit (.int 10))) (.bin .sub (.idx (.var 0) (.var 3)) (.lit (.int 48)))),.if_ (.cmp .ge (.var 4) (.glob 0)) [.assign 4 (.glob 0)] [],.aug 3 .add (.lit (.int 1))],.expr (.call 0 [(.cmp .lt (.var 4) (.glob 0))]),.assign 5 (.slc (.var 0) (some (.var 3)) (some (.bin .add (.var 3) (.lit (.int 3))))),.expr (.call 0 [(.cmp .eq (.var 5) (.slc (.lit (.bytes [125,13,10])) none (some (.len (.var 5)))))]),.expr (.call 0 [(.or_ [(.cmp .gt (.var 3) (.var 1)),(.cmp .eq (.len (.var 5)) (.lit (.int 0)))])]),.assign 6 (.slc (.var 0) (some (.bin .add (.var 3) (.lit (.int 3)))) (some (.bin .add (.bin .add (.var 3) (.lit (.int 3))) (.var 4)))),.expr (.call 0 [(.cmp .notIn (.lit (.int 0)) (.var 6))]),.if_ (.or_ [(.cmp .lt (.len (.var 5)) (.lit (.int 3))),(.cmp .lt (.len (.var 6)) (.var 4))]) [.ret (.lit .none)] [],.ret (.tup [(.tup [(.lit (.str [115,116,114,105,110,103])),(.var 6)]),(.bin .add (.bin .add (.var 3) (.lit (.int 3))) (.var 4))])]
noncomputable def vf_read_word : List Str := [Str.ofString "data",Str.ofString "p",Str.ofString "size",Str.ofString "q",Str.ofString "w",Str.ofString "n"]
noncomputable def cf_read_word:List CS:=[.assign 2 (.len (.var 0)),.assign 3 (.var 1),.if_ (.and_ [(.cmp .lt (.var 3) (.var 2)),(.cmp .eq (.idx (.var 0) (.var 3)) (.lit (.int 92)))]) [.aug 3 .add (.lit (.int 1))] [],.while_ (.and_ [(.cmp .lt (.var 3) (.var 2)),(.call 4 [(.idx (.var 0) (.var 3))])]) [.aug 3 .add (.lit (.int 1))],.if_ (.cmp .eq (.var 3) (.var 2)) [.ret (.lit .none)] [],.assign 4 (.slc (.var 0) (some (.var 1)) (some (.var 3))),.expr (.call 0 [(.and_ [(.cmp .ne (.var 4) (.lit (.bytes []))),(.cmp .ne (.var 4) (.lit (.bytes [92])))])]),.if_ (.and_ [(.cmp .eq (.len (.var 4)) (.lit (.int 3))),(.cmp .eq (.call 8 [(.var 4)]) (.lit (.bytes [78,73,76])))]) [.ret (.tup [(.tup [(.lit (.str [110,105,108]))]),(.var 3)])] [],.if_ (.call 5 [(.var 4)]) [.assign 5 (.call 6 [(.var 4)]),.expr (.call 0 [(.cmp .lt (.var 5) (.glob 0))]),.ret (.tup [(.tup [(.lit (.str [110,117,109,98,101,114])),(.var 5)]),(.var 3)])] [],.ret (.tup [(.tup [(.lit (.str [97,116,111,109])),(.var 4)]),(.var 3)])]
noncomputable def vf_read_value : List Str := [Str.ofString "data",Str.ofString "at",Str.ofString "depth",Str.ofString "c"]
noncomputable def cf_read_value:List CS:=[.if_ (.cmp .ge (.var 1) (.len (.var 0))) [.ret (.lit .none)] [],.assign 3 (.idx (.var 0) (.var 1)),.if_ (.cmp .eq (.var 3) (.lit (.int 40))) [.ret (.call 17 [(.var 0),(.bin .add (.var 1) (.lit (.int 1))),(.var 2)])] [],.if_ (.cmp .eq (.var 3) (.lit (.int 34))) [.ret (.call 18 [(.var 0),(.bin .add (.var 1) (.lit (.int 1)))])] [],.if_ (.cmp .eq (.var 3) (.lit (.int 123))) [.ret (.call 19 [(.var 0),(.bin .add (.var 1) (.lit (.int 1)))])] [],.ret (.call 20 [(.var 0),(.var 1)])]
noncomputable def vf_check_text : List Str := [Str.ofString "t",Str.ofString "x"]
noncomputable def cf_check_text:List CS:=[.expr (.call 0 [(.and_ [(.isin1 (.var 0) .bytes),(.cmp .gt (.len (.var 0)) (.lit (.int 0)))])]),.expr (.call 0 [(.cmp .ne (.idx (.var 0) (.lit (.int 0))) (.lit (.int 91)))]),.for_ 1 (.var 0) [.expr (.call 0 [(.and_ [(.cmp .ne (.var 1) (.lit (.int 10))),(.cmp .ne (.var 1) (.lit (.int 13))),(.cmp .ne (.var 1) (.lit (.int 0)))])])],.ret (.var 0)]
noncomputable def vf_write_line : List Str := [Str.ofString "line",Str.ofString "kind",Str.ofString "tag",Str.ofString "word",Str.ofString "code",Str.ofString "text",Str.ofString "head",Str.ofString "middle",Str.ofString "values",Str.ofString "first",Str.ofString "parts"]
noncomputable def cf_write_line:List CS:=[.expr (.call 0 [(.and_ [(.isin (.var 0) [.tuple,.list]),(.cmp .ge (.len (.var 0)) (.lit (.int 1)))])]),.assign 1 (.idx (.var 0) (.lit (.int 0))),.if_ (.cmp .eq (.var 1) (.lit (.str [99,111,110,116,105,110,117,101]))) [.expr (.call 0 [(.cmp .eq (.len (.var 0)) (.lit (.int 2)))]),.ret (.bin .add (.bin .add (.lit (.bytes [43,32])) (.call 22 [(.idx (.var 0) (.lit (.int 1)))])) (.lit (.bytes [13,10])))] [],.if_ (.cmp .eq (.var 1) (.lit (.str [100,97,116,97]))) [.expr (.call 0 [(.cmp .eq (.len (.var 0)) (.lit (.int 2)))]),.assign 8 (.idx (.var 0) (.lit (.int 1))),.expr (.call 0 [(.and_ [(.isin (.var 8) [.list,.tuple]),(.cmp .gt (.len (.var 8)) (.lit (.int 0)))])]),.assign 9 (.idx (.var 8) (.lit (.int 0))),.if_ (.and_ [(.isin (.var 9) [.tuple,.list]),(.cmp .ge (.len (.var 9)) (.lit (.int 2)))]) [.if_ (.and_ [(.cmp .eq (.idx (.var 9) (.lit (.int 0))) (.lit (.str [97,116,111,109]))),(.isin1 (.idx (.var 9) (.lit (.int 1))) .bytes)]) [.expr (.call 0 [(.cmp .notIn (.call 8 [(.idx (.var 9) (.lit (.int 1)))]) (.glob 1))])] []] [],.assign 10 (.comp (.call 16 [(.var 0)]) (.var 8) none),.ret (.bin .add (.bin .add (.lit (.bytes [42,32])) (.join (.lit (.bytes [32])) (.var 10))) (.lit (.bytes [13,10])))] [],.expr (.call 0 [(.and_ [(.cmp .eq (.var 1) (.lit (.str [115,116,97,116,117,115]))),(.cmp .eq (.len (.var 0)) (.lit (.int 5)))])]),.assign 2 (.idx (.var 0) (.lit (.int 1))),.assign 3 (.idx (.var 0) (.lit (.int 2))),.assign 4 (.idx (.var 0) (.lit (.int 3))),.assign 5 (.idx (.var 0) (.lit (.int 4))),.expr (.call 0 [(.cmp .in_ (.var 3) (.glob 1))]),.expr (.call 0 [(.or_ [(.cmp .eq (.var 2) (.lit (.bytes []))),(.call 9 [(.var 2)])])]),.assign 6 (.lit (.bytes [42])),.if_ (.cmp .ne (.var 2) (.lit (.bytes []))) [.assign 6 (.var 2)] [],.assign 7 (.lit (.bytes [])),.if_ (.cmp .isNot (.var 4) (.lit .none)) [.expr (.call 0 [(.and_ [(.isin (.var 4) [.list,.tuple]),(.cmp .gt (.len (.var 4)) (.lit (.int 0)))])]),.assign 10 (.comp (.call 16 [(.var 0)]) (.var 4) none),.assign 7 (.bin .add (.bin .add (.lit (.bytes [91])) (.join (.lit (.bytes [32])) (.var 10))) (.lit (.bytes [93,32])))] [],.ret (.bin .add (.bin .add (.bin .add (.bin .add (.bin .add (.bin .add (.var 6) (.lit (.bytes [32]))) (.var 3)) (.lit (.bytes [32]))) (.var 7)) (.call 22 [(.var 5)])) (.lit (.bytes [13,10])))]
noncomputable def vf_read_text : List Str := [Str.ofString "data",Str.ofString "p",Str.ofString "size",Str.ofString "e",Str.ofString "text",Str.ofString "r"]
noncomputable def cf_read_text:List CS:=[.assign 2 (.len (.var 0)),.assign 3 (.var 1),.while_ (.and_ [(.cmp .lt (.var 3) (.var 2)),(.cmp .ne (.idx (.var 0) (.var 3)) (.lit (.int 10))),(.cmp .ne (.idx (.var 0) (.var 3)) (.lit (.int 13))),(.cmp .ne (.idx (.var 0) (.var 3)) (.lit (.int 0)))]) [.aug 3 .add (.lit (.int 1))],.if_ (.cmp .lt (.var 3) (.var 2)) [.expr (.call 0 [(.cmp .eq (.idx (.var 0) (.var 3)) (.lit (.int 13)))])] [],.assign 4 (.slc (.var 0) (some (.var 1)) (some (.var 3))),.if_ (.cmp .gt (.len (.var 4)) (.lit (.int 0))) [.expr (.call 0 [(.cmp .ne (.idx (.var 4) (.lit (.int 0))) (.lit (.int 91)))])] [.if_ (.cmp .lt (.var 3) (.var 2)) [.raise_] []],.if_ (.cmp .eq (.var 3) (.var 2)) [.ret (.lit .none)] [],.assign 5 (.call 12 [(.var 0),(.var 3)]),.if_ (.cmp .is_ (.var 5) (.lit .none)) [.ret (.lit .none)] [],.ret (.tup [(.var 4),(.var 5)])]
noncomputable def vf_status_word : List Str := [Str.ofString "data",Str.ofString "p",Str.ofString "w",Str.ofString "n",Str.ofString "piece"]
noncomputable def cf_status_word:List CS:=[.for_ 2 (.glob 1) [.assign 3 (.len (.var 2)),.assign 4 (.slc (.var 0) (some (.var 1)) (some (.bin .add (.bin .add (.var 1) (.var 3)) (.lit (.int 1))))),.if_ (.and_ [(.cmp .eq (.len (.var 4)) (.bin .add (.var 3) (.lit (.int 1)))),(.cmp .eq (.call 8 [(.var 4)]) (.bin .add (.var 2) (.lit (.bytes [32]))))]) [.ret (.var 2)] []],.ret (.lit .none)]
noncomputable def vf_read_line : List Str := [Str.ofString "data",Str.ofString "depth",Str.ofString "size",Str.ofString "p",Str.ofString "word",Str.ofString "values",Str.ofString "r",Str.ofString "tag",Str.ofString "code",Str.ofString "rest",Str.ofString "w",Str.ofString "e",Str.ofString "full"]
noncomputable def cf_read_line:List CS:=[.assign 2 (.len (.var 0)),.if_ (.and_ [(.cmp .gt (.var 2) (.lit (.int 0))),(.cmp .eq (.idx (.var 0) (.lit (.int 0))) (.lit (.int 43)))]) [.if_ (.cmp .lt (.var 2) (.lit (.int 2))) [.ret (.lit .none)] [],.expr (.call 0 [(.cmp .eq (.idx (.var 0) (.lit (.int 1))) (.lit (.int 32)))]),.assign 6 (.call 24 [(.var 0),(.lit (.int 2))]),.if_ (.cmp .is_ (.var 6) (.lit .none)) [.ret (.lit .none)] [],.ret (.tup [(.tup [(.lit (.str [99,111,110,116,105,110,117,101])),(.idx (.var 6) (.lit (.int 0)))]),(.idx (.var 6) (.lit (.int 1)))])] [],.if_ (.and_ [(.cmp .gt (.var 2) (.lit (.int 0))),(.cmp .eq (.idx (.var 0) (.lit (.int 0))) (.lit (.int 42)))]) [.assign 7 (.lit (.bytes [])),.assign 3 (.lit (.int 1))] [.assign 6 (.call 11 [(.var 0),(.lit (.int 0)),(.lit (.bool false))]),.if_ (.cmp .is_ (.var 6) (.lit .none)) [.ret (.lit .none)] [],.assign 7 (.idx (.var 6) (.lit (.int 0))),.assign 3 (.idx (.var 6) (.lit (.int 1)))],.if_ (.cmp .ge (.var 3) (.var 2)) [.ret (.lit .none)] [],.expr (.call 0 [(.cmp .eq (.idx (.var 0) (.var 3)) (.lit (.int 32)))]),.aug 3 .add (.lit (.int 1)),.assign 4 (.call 25 [(.var 0),(.var 3)]),.if_ (.cmp .isNot (.var 4) (.lit .none)) [.assign 3 (.bin .add (.bin .add (.var 3) (.len (.var 4))) (.lit (.int 1))),.assign 8 (.lit .none),.if_ (.cmp .ge (.var 3) (.var 2)) [.ret (.lit .none)] [],.if_ (.cmp .eq (.idx (.var 0) (.var 3)) (.lit (.int 91))) [.aug 3 .add (.lit (.int 1)),.own 8 [],.while_ (.lit (.bool true)) [.assign 6 (.call 21 [(.var 0),(.var 3),(.var 1)]),.if_ (.cmp .is_ (.var 6) (.lit .none)) [.ret (.lit .none)] [],.app 8 (.idx (.var 6) (.lit (.int 0))),.assign 3 (.idx (.var 6) (.lit (.int 1))),.if_ (.cmp .ge (.var 3) (.var 2)) [.ret (.lit .none)] [],.if_ (.cmp .eq (.idx (.var 0) (.var 3)) (.lit (.int 93))) [.aug 3 .add (.lit (.int 1)),.brk] [],.expr (.call 0 [(.cmp .eq (.idx (.var 0) (.var 3)) (.lit (.int 32)))]),.aug 3 .add (.lit (.int 1))],.if_ (.cmp .ge (.var 3) (.var 2)) [.ret (.lit .none)] [],.expr (.call 0 [(.cmp .eq (.idx (.var 0) (.var 3)) (.lit (.int 32)))]),.aug 3 .add (.lit (.int 1))] [],.assign 6 (.call 24 [(.var 0),(.var 3)]),.if_ (.cmp .is_ (.var 6) (.lit .none)) [.ret (.lit .none)] [],.frz 8,.ret (.tup [(.tup [(.lit (.str [115,116,97,116,117,115])),(.var 7),(.var 4),(.var 8),(.idx (.var 6) (.lit (.int 0)))]),(.idx (.var 6) (.lit (.int 1)))])] [],.if_ (.cmp .ne (.var 7) (.lit (.bytes []))) [.if_ (.cmp .le (.bin .sub (.var 2) (.var 3)) (.lit (.int 4))) [.assign 9 (.call 8 [(.slc (.var 0) (some (.var 3)) none)]),.for_ 10 (.glob 1) [.assign 12 (.bin .add (.var 10) (.lit (.bytes [32]))),.if_ (.cmp .eq (.slc (.var 12) none (some (.len (.var 9)))) (.var 9)) [.ret (.lit .none)] []]] [],.raise_] [],.own 5 [],.while_ (.lit (.bool true)) [.assign 6 (.call 21 [(.var 0),(.var 3),(.var 1)]),.if_ (.cmp .is_ (.var 6) (.lit .none)) [.ret (.lit .none)] [],.if_ (.and_ [(.cmp .eq (.len (.var 5)) (.lit (.int 0))),(.cmp .eq (.idx (.idx (.var 6) (.lit (.int 0))) (.lit (.int 0))) (.lit (.str [97,116,111,109])))]) [.expr (.call 0 [(.cmp .notIn (.call 8 [(.idx (.idx (.var 6) (.lit (.int 0))) (.lit (.int 1)))]) (.glob 1))])] [],.app 5 (.idx (.var 6) (.lit (.int 0))),.assign 3 (.idx (.var 6) (.lit (.int 1))),.if_ (.cmp .ge (.var 3) (.var 2)) [.ret (.lit .none)] [],.if_ (.cmp .ne (.idx (.var 0) (.var 3)) (.lit (.int 32))) [.assign 11 (.call 12 [(.var 0),(.var 3)]),.if_ (.cmp .is_ (.var 11) (.lit .none)) [.ret (.lit .none)] [],.frz 5,.ret (.tup [(.tup [(.lit (.str [100,97,116,97])),(.var 5)]),(.var 11)])] [],.aug 3 .add (.lit (.int 1))]]
noncomputable def vf_write_command : List Str := [Str.ofString "command",Str.ofString "tag",Str.ofString "name",Str.ofString "values",Str.ofString "parts",Str.ofString "value"]
noncomputable def cf_write_command:List CS:=[.expr (.call 0 [(.and_ [(.isin (.var 0) [.tuple,.list]),(.cmp .eq (.len (.var 0)) (.lit (.int 3)))])]),.assign 1 (.idx (.var 0) (.lit (.int 0))),.assign 2 (.idx (.var 0) (.lit (.int 1))),.assign 3 (.idx (.var 0) (.lit (.int 2))),.expr (.call 0 [(.and_ [(.call 9 [(.var 1)]),(.call 10 [(.var 2)])])]),.expr (.call 0 [(.isin (.var 3) [.list,.tuple])]),.own 4 [(.var 1),(.var 2)],.for_ 5 (.var 3) [.app 4 (.call 16 [(.var 5)])],.frz 4,.ret (.bin .add (.join (.lit (.bytes [32])) (.var 4)) (.lit (.bytes [13,10])))]
noncomputable def vf_read_command : List Str := [Str.ofString "data",Str.ofString "depth",Str.ofString "r",Str.ofString "tag",Str.ofString "p",Str.ofString "name",Str.ofString "size",Str.ofString "values",Str.ofString "e"]
noncomputable def cf_read_command:List CS:=[.assign 2 (.call 11 [(.var 0),(.lit (.int 0)),(.lit (.bool false))]),.if_ (.cmp .is_ (.var 2) (.lit .none)) [.ret (.lit .none)] [],.assign 3 (.idx (.var 2) (.lit (.int 0))),.assign 4 (.idx (.var 2) (.lit (.int 1))),.expr (.call 0 [(.cmp .eq (.idx (.var 0) (.var 4)) (.lit (.int 32)))]),.assign 2 (.call 11 [(.var 0),(.bin .add (.var 4) (.lit (.int 1))),(.lit (.bool true))]),.if_ (.cmp .is_ (.var 2) (.lit .none)) [.ret (.lit .none)] [],.assign 5 (.idx (.var 2) (.lit (.int 0))),.assign 4 (.idx (.var 2) (.lit (.int 1))),.assign 6 (.len (.var 0)),.own 7 [],.while_ (.lit (.bool true)) [.if_ (.cmp .ge (.var 4) (.var 6)) [.ret (.lit .none)] [],.if_ (.cmp .ne (.idx (.var 0) (.var 4)) (.lit (.int 32))) [.assign 8 (.call 12 [(.var 0),(.var 4)]),.if_ (.cmp .is_ (.var 8) (.lit .none)) [.ret (.lit .none)] [],.frz 7,.ret (.tup [(.tup [(.var 3),(.call 8 [(.var 5)]),(.var 7)]),(.var 8)])] [],.assign 2 (.call 21 [(.var 0),(.bin .add (.var 4) (.lit (.int 1))),(.var 1)]),.if_ (.cmp .is_ (.var 2) (.lit .none)) [.ret (.lit .none)] [],.app 7 (.idx (.var 2) (.lit (.int 0))),.assign 4 (.idx (.var 2) (.lit (.int 1)))]]
structure Lib (T:Nat→Option CF) (G:Nat→Res PV):Prop where
 t0:T 0=some (.code vf_need 1 cf_need)
 t1:T 1=some (.code vf_is_digit 1 cf_is_digit)
 t2:T 2=some (.code vf_is_letter 1 cf_is_letter)
 t3:T 3=some (.code vf_is_tag_char 1 cf_is_tag_char)
 t4:T 4=some (.code vf_is_atom_char 1 cf_is_atom_char)
 t5:T 5=some (.code vf_all_digits 1 cf_all_digits)
 t6:T 6=some (.code vf_digits_value 1 cf_digits_value)
 t7:T 7=some (.native nf_decimal)
 t8:T 8=some (.code vf_upper 1 cf_upper)
 t9:T 9=some (.code vf_is_tag 1 cf_is_tag)
 t10:T 10=some (.code vf_is_name 1 cf_is_name)
 t11:T 11=some (.code vf_read_run 3 cf_read_run)
 t12:T 12=some (.code vf_read_crlf 2 cf_read_crlf)
 t13:T 13=some (.code vf_is_atom_text 1 cf_is_atom_text)
 t14:T 14=some (.code vf_quotable 1 cf_quotable)
 t15:T 15=some (.code vf_quote 1 cf_quote)
 t16:T 16=some (.code vf_write_value 1 cf_write_value)
 t17:T 17=some (.code vf_read_list 3 cf_read_list)
 t18:T 18=some (.code vf_read_quoted 2 cf_read_quoted)
 t19:T 19=some (.code vf_read_literal 2 cf_read_literal)
 t20:T 20=some (.code vf_read_word 2 cf_read_word)
 t21:T 21=some (.code vf_read_value 3 cf_read_value)
 t22:T 22=some (.code vf_check_text 1 cf_check_text)
 t23:T 23=some (.code vf_write_line 1 cf_write_line)
 t24:T 24=some (.code vf_read_text 2 cf_read_text)
 t25:T 25=some (.code vf_status_word 2 cf_status_word)
 t26:T 26=some (.code vf_read_line 2 cf_read_line)
 t27:T 27=some (.code vf_write_command 1 cf_write_command)
 t28:T 28=some (.code vf_read_command 2 cf_read_command)
 g0:G 0=.ok (.int 4294967296)
 g1:G 1=.ok (.tuple [.bytes [79,75],.bytes [78,79],.bytes [66,65,68],.bytes [66,89,69]])
end Mine
namespace Mine
open PySem
namespace L2
noncomputable def vf_law_pick : List Str := [Str.ofString "goods",Str.ofString "bads",Str.ofString "n",Str.ofString "bad"]
noncomputable def cf_law_pick:List CS:=[.if_ (.var 3) [.ret (.idx (.var 1) (.bin .mod (.var 2) (.len (.var 1))))] [],.ret (.idx (.var 0) (.bin .mod (.var 2) (.len (.var 0))))]
noncomputable def vf_law_leaf : List Str := [Str.ofString "spot",Str.ofString "m",Str.ofString "n",Str.ofString "signs",Str.ofString "counts",Str.ofString "quotes",Str.ofString "plain",Str.ofString "strings"]
noncomputable def cf_law_leaf:List CS:=[.assign 3 (.tup [(.tup [(.lit (.bytes [97,42])),(.lit (.int 1)),(.lit .none),(.tup [(.lit (.str [97,116,111,109])),(.lit (.bytes [97,42]))])]),(.tup [(.lit (.bytes [97,37])),(.lit (.int 1)),(.lit .none),(.tup [(.lit (.str [97,116,111,109])),(.lit (.bytes [97,37]))])]),(.tup [(.lit (.bytes [97,34])),(.lit (.int 1)),(.lit .none),(.tup [(.lit (.str [97,116,111,109])),(.lit (.bytes [97,34]))])]),(.tup [(.lit (.bytes [97,40])),(.lit (.int 1)),(.lit .none),(.tup [(.lit (.str [97,116,111,109])),(.lit (.bytes [97,40]))])]),(.tup [(.lit (.bytes [97,92])),(.lit (.int 1)),(.lit .none),(.tup [(.lit (.str [97,116,111,109])),(.lit (.bytes [97,92]))])]),(.tup [(.lit (.bytes [97,123])),(.lit (.int 1)),(.lit .none),(.tup [(.lit (.str [97,116,111,109])),(.lit (.bytes [97,123]))])]),(.tup [(.lit (.bytes [97,127])),(.lit (.int 1)),(.lit .none),(.tup [(.lit (.str [97,116,111,109])),(.lit (.bytes [97,127]))])]),(.tup [(.lit (.bytes [42])),(.lit (.int 0)),(.lit .none),(.tup [(.lit (.str [97,116,111,109])),(.lit (.bytes [97,41]))])]),(.tup [(.lit (.bytes [])),(.lit (.int 0)),(.lit .none),(.tup [(.lit (.str [97,116,111,109])),(.lit (.bytes []))])]),(.tup [(.lit (.bytes [92])),(.lit (.int 1)),(.lit .none),(.tup [(.lit (.str [97,116,111,109])),(.lit (.bytes [92]))])])]),.assign 4 (.tup [(.tup [(.lit (.bytes [52,50,57,52,57,54,55,50,57,54])),(.lit (.int 10)),(.lit .none),(.tup [(.lit (.str [110,117,109,98,101,114])),(.lit (.int 4294967296))])]),(.tup [(.lit (.bytes [123,52,50,57,52,57,54,55,50,57,54,125])),(.lit (.int 10)),(.lit .none),(.tup [(.lit (.str [110,117,109,98,101,114])),(.neg 1)])]),(.tup [(.lit (.bytes [123,52,50,57,52,57,54,55,50,57,53,120])),(.lit (.int 11)),(.lit .none),(.strFlt [110,117,109,98,101,114] 0)]),(.tup [(.lit (.bytes [123,125])),(.lit (.int 1)),(.lit .none),(.tup [(.lit (.str [97,116,111,109])),(.lit (.bytes [110,73,108]))])]),(.tup [(.lit (.bytes [123,49,120])),(.lit (.int 2)),(.lit .none),(.tup [(.lit (.str [97,116,111,109])),(.lit (.bytes [52,50]))])]),(.tup [(.lit (.bytes [123,49,125,120])),(.lit (.int 3)),(.lit .none),(.tup [(.lit (.str [115,116,114,105,110,103])),(.tup [(.lit (.int 97))])])]),(.tup [(.lit (.bytes [123,49,125,13,120])),(.lit (.int 4)),(.lit .none),(.tup [(.lit (.str [108,105,115,116])),.dict0])]),(.tup [(.lit (.bytes [123,50,125,13,10,97,0])),(.lit (.int 6)),(.lit .none),(.tup [(.lit (.str [115,116,114,105,110,103])),(.lit (.bytes [97,0]))])]),(.tup [(.lit (.bytes [123,48,125,13,10,97])),(.lit (.int 5)),(.lit .none),(.tup [(.lit (.str [110,105,108])),(.lit (.int 1))])]),(.tup [(.lit (.bytes [123,120])),(.lit (.int 1)),(.lit .none),(.tup [(.lit (.str [116,101,120,116])),(.lit (.bytes [97]))])])]),.assign 5 (.tup [(.tup [(.lit (.bytes [34,92,120,34])),(.lit (.int 2)),(.lit .none),(.tup [(.lit (.str [97,116,111,109])),(.lit (.bytes [92,97,92]))])]),(.tup [(.lit (.bytes [34,97,13,34])),(.lit (.int 2)),(.lit .none),(.tup [(.lit (.str [97,116,111,109])),(.lit (.bytes [97,32,98]))])]),(.tup [(.lit (.bytes [34,10,34])),(.lit (.int 1)),(.lit .none),(.tup [(.lit (.str [97,116,111,109])),(.tup [(.lit (.int 97))])])]),(.tup [(.lit (.bytes [34,128,34])),(.lit (.int 1)),(.lit .none),(.tup [(.lit (.str [97,116,111,109])),(.lit (.bytes [128]))])]),(.tup [(.lit (.bytes [34,0,34])),(.lit (.int 1)),(.lit .none),(.tup [(.lit (.str [115,116,114,105,110,103])),(.lit (.bytes [0]))])]),(.tup [(.lit (.bytes [34,34,97])),(.lit (.int 2)),(.lit .none),(.tup [(.lit (.str [110,105,108])),(.lit (.bytes []))])]),(.tup [(.lit (.bytes [40,32,41])),(.lit (.int 1)),(.lit .none),(.tup [(.lit (.str [108,105,115,116])),(.lst [(.tup [(.lit (.str [97,116,111,109])),(.lit (.bytes []))])])])]),(.tup [(.lit (.bytes [40,97,32,32,98,41])),(.lit (.int 3)),(.lit .none),(.tup [(.lit (.str [110,117,109,98,101,114]))])]),(.tup [(.lit (.bytes [40,97,32,41])),(.lit (.int 3)),(.lit .none),(.tup [(.lit (.str [97,116,111,109])),(.lit (.bytes [97])),(.lit (.bytes []))])]),(.tup [(.lit (.bytes [40,34,34,97,41])),(.lit (.int 3)),(.lit .none),(.tup [])])]),.assign 6 (.tup [(.tup [(.lit (.bytes [40,41])),(.neg 1),(.lit (.bytes [40,41])),(.tup [(.lit (.str [108,105,115,116])),(.lst [])])]),(.tup [(.lit (.bytes [110,73,108])),(.neg 1),(.lit (.bytes [78,73,76])),(.tup [(.lit (.str [110,105,108]))])]),(.tup [(.lit (.bytes [110,105,120])),(.neg 1),(.lit (.bytes [110,105,120])),(.tup [(.lit (.str [97,116,111,109])),(.lit (.bytes [110,105,120]))])]),(.tup [(.lit (.bytes [111,75])),(.neg 1),(.lit (.bytes [111,75])),(.tup [(.lit (.str [97,116,111,109])),(.lit (.bytes [111,75]))])]),(.tup [(.lit (.bytes [92,65,122,48,57])),(.neg 1),(.lit (.bytes [92,65,122,48,57])),(.tup [(.lit (.str [97,116,111,109])),(.lit (.bytes [92,65,122,48,57]))])]),(.tup [(.lit (.bytes [49,47])),(.neg 1),(.lit (.bytes [49,47])),(.tup [(.lit (.str [97,116,111,109])),(.lit (.bytes [49,47]))])]),(.tup [(.lit (.bytes [58,57])),(.neg 1),(.lit (.bytes [58,57])),(.tup [(.lit (.str [97,116,111,109])),(.lit (.bytes [58,57]))])]),(.tup [(.lit (.bytes [33,35,36,38,39,43,44,45,46,47,58,59,60,61,62,63,64,91,94,95,96,124,125,126])),(.neg 1),(.lit (.bytes [33,35,36,38,39,43,44,45,46,47,58,59,60,61,62,63,64,91,94,95,96,124,125,126])),(.tup [(.lit (.str [97,116,111,109])),(.lit (.bytes [33,35,36,38,39,43,44,45,46,47,58,59,60,61,62,63,64,91,94,95,96,124,125,126]))])]),(.tup [(.lit (.bytes [48,48])),(.neg 1),(.lit (.bytes [48])),(.tup [(.lit (.str [110,117,109,98,101,114])),(.lit (.int 0))])]),(.tup [(.lit (.bytes [52,50,57,52,57,54,55,50,57,53])),(.neg 1),(.lit (.bytes [52,50,57,52,57,54,55,50,57,53])),(.tup [(.lit (.str [110,117,109,98,101,114])),(.lit (.int 4294967295))])])]),.assign 7 (.tup [(.tup [(.lit (.bytes [48,49,50,48])),(.neg 1),(.lit (.bytes [49,50,48])),(.tup [(.lit (.str [110,117,109,98,101,114])),(.lit (.int 120))])]),(.tup [(.lit (.bytes [34,34])),(.neg 1),(.lit (.bytes [34,34])),(.tup [(.lit (.str [115,116,114,105,110,103])),(.lit (.bytes []))])]),(.tup [(.lit (.bytes [34,97,92,34,92,92,1,127,34])),(.neg 1),(.lit (.bytes [34,97,92,34,92,92,1,127,34])),(.tup [(.lit (.str [115,116,114,105,110,103])),(.lit (.bytes [97,34,92,1,127]))])]),(.tup [(.lit (.bytes [34,9,11,12,14,34])),(.neg 1),(.lit (.bytes [34,9,11,12,14,34])),(.tup [(.lit (.str [115,116,114,105,110,103])),(.lit (.bytes [9,11,12,14]))])]),(.tup [(.bin .add (.bin .add (.lit (.bytes [34])) (.bin .mul (.lit (.bytes [113])) (.lit (.int 40)))) (.lit (.bytes [34]))),(.neg 1),(.bin .add (.bin .add (.lit (.bytes [34])) (.bin .mul (.lit (.bytes [113])) (.lit (.int 40)))) (.lit (.bytes [34]))),(.tup [(.lit (.str [115,116,114,105,110,103])),(.bin .mul (.lit (.bytes [113])) (.lit (.int 40)))])]),(.tup [(.bin .add (.lit (.bytes [123,52,49,125,13,10])) (.bin .mul (.lit (.bytes [113])) (.lit (.int 41)))),(.neg 1),(.bin .add (.lit (.bytes [123,52,49,125,13,10])) (.bin .mul (.lit (.bytes [113])) (.lit (.int 41)))),(.tup [(.lit (.str [115,116,114,105,110,103])),(.bin .mul (.lit (.bytes [113])) (.lit (.int 41)))])]),(.tup [(.lit (.bytes [123,48,51,125,13,10,97,34,98])),(.neg 1),(.lit (.bytes [34,97,92,34,98,34])),(.tup [(.lit (.str [115,116,114,105,110,103])),(.lit (.bytes [97,34,98]))])]),(.tup [(.lit (.bytes [123,50,125,13,10,13,40])),(.neg 1),(.lit (.bytes [123,50,125,13,10,13,40])),(.tup [(.lit (.str [115,116,114,105,110,103])),(.lit (.bytes [13,40]))])]),(.tup [(.lit (.bytes [123,49,125,13,10,10])),(.neg 1),(.lit (.bytes [123,49,125,13,10,10])),(.tup [(.lit (.str [115,116,114,105,110,103])),(.lit (.bytes [10]))])]),(.tup [(.lit (.bytes [123,50,125,13,10,122,128])),(.neg 1),(.lit (.bytes [123,50,125,13,10,122,128])),(.tup [(.lit (.str [115,116,114,105,110,103])),(.lit (.bytes [122,128]))])])]),.if_ (.cmp .lt (.var 0) (.lit (.int 3))) [.ret (.idx (.idx (.tup [(.var 3),(.var 4),(.var 5)]) (.var 0)) (.bin .mod (.var 2) (.lit (.int 10))))] [],.ret (.idx (.idx (.tup [(.var 6),(.var 7)]) (.bin .mod (.var 1) (.lit (.int 2)))) (.bin .mod (.var 2) (.lit (.int 10))))]
noncomputable def vf_law_values : List Str := [Str.ofString "kind",Str.ofString "spot",Str.ofString "depth",Str.ofString "size",Str.ofString "k",Str.ofString "m",Str.ofString "n",Str.ofString "f",Str.ofString "goods",Str.ofString "bads",Str.ofString "first",Str.ofString "parts",Str.ofString "values",Str.ofString "leaf",Str.ofString "value",Str.ofString "i",Str.ofString "at",Str.ofString "sep"]
noncomputable def cf_law_values:List CS:=[.assign 8 (.tup [(.tup [(.lit (.bytes [79,75,65,89])),(.neg 1),(.lit (.bytes [79,75,65,89])),(.tup [(.lit (.str [97,116,111,109])),(.lit (.bytes [79,75,65,89]))])]),(.tup [(.lit (.bytes [48,55])),(.neg 1),(.lit (.bytes [55])),(.tup [(.lit (.str [110,117,109,98,101,114])),(.lit (.int 7))])]),(.tup [(.lit (.bytes [34,79,75,34])),(.neg 1),(.lit (.bytes [34,79,75,34])),(.tup [(.lit (.str [115,116,114,105,110,103])),(.lit (.bytes [79,75]))])]),(.tup [(.lit (.bytes [110,111,49])),(.neg 1),(.lit (.bytes [110,111,49])),(.tup [(.lit (.str [97,116,111,109])),(.lit (.bytes [110,111,49]))])]),(.tup [(.lit (.bytes [110,105,108])),(.neg 1),(.lit (.bytes [78,73,76])),(.tup [(.lit (.str [110,105,108]))])])]),.assign 9 (.tup [(.tup [(.lit (.bytes [111,107,13])),(.lit (.int 2)),(.lit .none),(.tup [(.lit (.str [97,116,111,109])),(.lit (.bytes [111,107]))])]),(.tup [(.lit (.bytes [66,121,101,41])),(.lit (.int 3)),(.lit .none),(.tup [(.lit (.str [97,116,111,109])),(.lit (.bytes [66,121,101]))])]),(.tup [(.lit (.bytes [66,65,68,13])),(.lit (.int 3)),(.lit .none),(.tup [(.lit (.str [97,116,111,109])),(.lit (.bytes [66,65,68]))])]),(.tup [(.lit (.bytes [110,79,41])),(.lit (.int 2)),(.lit .none),(.tup [(.lit (.str [97,116,111,109])),(.lit (.bytes [110,79]))])])]),.assign 10 (.call 29 [(.var 8),(.var 9),(.var 7),(.and_ [(.cmp .eq (.var 0) (.lit (.int 2))),(.cmp .eq (.var 1) (.lit (.int 4)))])]),.assignT true [11,12] (.tup [(.lst []),(.lst [])]),.if_ (.or_ [(.cmp .gt (.var 3) (.lit (.int 0))),(.cmp .gt (.var 0) (.lit (.int 1)))]) [.assignT true [11,12] (.tup [(.lst [(.slc (.var 10) none (some (.lit (.int 3))))]),(.lst [(.idx (.var 10) (.lit (.int 3)))])])] [],.if_ (.cmp .gt (.var 3) (.lit (.int 1))) [.assign 13 (.call 30 [(.var 1),(.var 5),(.var 6)]),.assign 14 (.idx (.var 13) (.lit (.int 3))),.forR 15 (.var 4) [.assign 14 (.tup [(.lit (.str [108,105,115,116])),(.lst [(.tup [(.lit (.str [97,116,111,109])),(.lit (.bytes [120]))]),(.var 14)])])],.assign 12 (.bin .add (.var 12) (.lst [(.var 14)])),.assign 16 (.neg 1),.if_ (.or_ [(.cmp .gt (.var 4) (.var 2)),(.and_ [(.cmp .eq (.var 4) (.var 2)),(.cmp .eq (.slc (.idx (.var 13) (.lit (.int 0))) none (some (.lit (.int 1)))) (.lit (.bytes [40])))])]) [.assign 16 (.bin .mul (.lit (.int 3)) (.var 2))] [],.assign 17 (.call 29 [(.tup [(.tup [(.lit (.bytes [32])),(.neg 1),(.lit (.bytes [32]))])]),(.tup [(.tup [(.lit (.bytes [32,32])),(.lit (.int 1)),(.lit (.bytes [32]))]),(.tup [(.lit (.bytes [41])),(.lit (.int 0)),(.lit (.bytes [32]))])]),(.var 7),(.cmp .eq (.var 1) (.lit (.int 5)))]),.assign 11 (.bin .add (.var 11) (.lst [(.var 17),(.tup [(.bin .mul (.lit (.bytes [40,120,32])) (.var 4)),(.var 16),(.bin .mul (.lit (.bytes [40,120,32])) (.var 4))]),(.slc (.var 13) none (some (.lit (.int 3)))),(.tup [(.bin .mul (.lit (.bytes [41])) (.var 4)),(.neg 1),(.bin .mul (.lit (.bytes [41])) (.var 4))])]))] [],.ret (.tup [(.var 11),(.var 12)])]
noncomputable def vf_law_make : List Str := [Str.ofString "kind",Str.ofString "spot",Str.ofString "depth",Str.ofString "size",Str.ofString "coded",Str.ofString "star",Str.ofString "k",Str.ofString "m",Str.ofString "n",Str.ofString "f",Str.ofString "a",Str.ofString "b",Str.ofString "c",Str.ofString "handed",Str.ofString "space",Str.ofString "tag",Str.ofString "texts",Str.ofString "text",Str.ofString "end",Str.ofString "words",Str.ofString "word",Str.ofString "who",Str.ofString "parts",Str.ofString "body",Str.ofString "values",Str.ofString "name",Str.ofString "head",Str.ofString "left",Str.ofString "right"]
noncomputable def cf_law_make:List CS:=[.assignT false [23,24] (.call 31 [(.var 0),(.var 1),(.var 2),(.var 3),(.var 6),(.var 7),(.var 8),(.var 9)]),.assign 13 (.var 24),.if_ (.cmp .eq (.var 1) (.lit (.int 9))) [.assignT true [13,23] (.tup [.dict0,(.bin .add (.var 23) (.lst [(.tup [(.lit (.bytes [])),(.neg 1),(.lit .none)])]))])] [],.assign 14 (.tup [(.lit (.bytes [32])),(.neg 1),(.lit (.bytes [32]))]),.assign 15 (.call 29 [(.tup [(.tup [(.lit (.bytes [97,49])),(.neg 1),(.lit (.bytes [97,49]))]),(.tup [(.lit (.bytes [65,90,97,122,48,57,45])),(.neg 1),(.lit (.bytes [65,90,97,122,48,57,45]))]),(.tup [(.lit (.bytes [45,120])),(.neg 1),(.lit (.bytes [45,120]))])]),(.tup [(.tup [(.lit (.bytes [32])),(.lit (.int 0)),(.lit .none)]),(.tup [(.lit (.bytes [97,64])),(.lit (.int 1)),(.lit .none)]),(.tup [(.lit (.bytes [97,91])),(.lit (.int 1)),(.lit .none)]),(.tup [(.lit (.bytes [97,96])),(.lit (.int 1)),(.lit .none)]),(.tup [(.lit (.bytes [97,123])),(.lit (.int 1)),(.lit .none)]),(.tup [(.lit (.bytes [97,47])),(.lit (.int 1)),(.lit .none)]),(.tup [(.lit (.bytes [97,58])),(.lit (.int 1)),(.lit .none)]),(.tup [(.lit (.bytes [97,44])),(.lit (.int 1)),(.lit .none)]),(.tup [(.lit (.bytes [97,46])),(.lit (.int 1)),(.lit .none)])]),(.var 10),(.cmp .eq (.var 1) (.lit (.int 3)))]),.assign 16 (.tup [(.tup [(.lit (.bytes [104,105])),(.neg 1),(.lit (.bytes [104,105]))]),(.tup [(.lit (.bytes [120])),(.neg 1),(.lit (.bytes [120]))]),(.tup [(.lit (.bytes [9,11,12,14,1,255])),(.neg 1),(.lit (.bytes [9,11,12,14,1,255]))]),(.tup [(.lit (.bytes [92,90,32,91,121,93,32])),(.neg 1),(.lit (.bytes [92,90,32,91,121,93,32]))]),(.tup [(.lit (.bytes [90,91])),(.neg 1),(.lit (.bytes [90,91]))])]),.assign 17 (.call 29 [(.var 16),(.tup [(.tup [(.lit (.bytes [97,0,98])),(.lit (.int 1)),(.lit .none)]),(.tup [(.lit (.bytes [97,10,98])),(.lit (.int 1)),(.lit .none)]),(.tup [(.lit (.bytes [97,13,98])),(.lit (.int 2)),(.lit .none)]),(.tup [(.lit (.bytes [])),(.lit (.int 0)),(.lit .none)]),(.tup [(.lit (.bytes [91])),(.lit (.int 0)),(.lit .none)])]),(.var 12),(.cmp .eq (.var 1) (.lit (.int 7)))]),.assign 18 (.lst [(.call 29 [(.tup [(.tup [(.lit (.bytes [13,10])),(.neg 1),(.lit (.bytes [13,10]))])]),(.tup [(.tup [(.lit (.bytes [13,13])),(.lit (.int 1)),(.lit .none)]),(.tup [(.lit (.bytes [10])),(.lit (.int 0)),(.lit .none)]),(.tup [(.lit (.bytes [13,120])),(.lit (.int 1)),(.lit .none)])]),(.var 12),(.cmp .eq (.var 1) (.lit (.int 8)))])]),.if_ (.cmp .eq (.var 0) (.lit (.int 0))) [.assign 25 (.call 29 [(.tup [(.tup [(.lit (.bytes [110,111,111,112])),(.neg 1),(.lit (.bytes [110,111,111,112])),(.lit (.bytes [78,79,79,80]))]),(.tup [(.lit (.bytes [65,90,97,122])),(.neg 1),(.lit (.bytes [65,90,97,122])),(.lit (.bytes [65,90,65,90]))])]),(.tup [(.tup [(.lit (.bytes [])),(.lit (.int 0)),(.lit .none),(.lit (.bytes []))]),(.tup [(.lit (.bytes [97,49])),(.lit (.int 1)),(.lit .none),(.lit (.bytes []))]),(.tup [(.lit (.bytes [98,64])),(.lit (.int 1)),(.lit .none),(.lit (.bytes []))]),(.tup [(.lit (.bytes [90,91])),(.lit (.int 1)),(.lit .none),(.lit (.bytes []))]),(.tup [(.lit (.bytes [121,96])),(.lit (.int 1)),(.lit .none),(.lit (.bytes []))]),(.tup [(.lit (.bytes [122,123])),(.lit (.int 1)),(.lit .none),(.lit (.bytes []))])]),(.var 11),(.cmp .eq (.var 1) (.lit (.int 4)))]),.if_ (.cmp .eq (.var 1) (.lit (.int 6))) [.assign 15 (.tup [(.lit (.bytes [])),(.lit (.int 0)),(.lit .none)])] [],.if_ (.cmp .ne (.var 24) (.lst [])) [.assign 23 (.bin .add (.lst [(.var 14)]) (.var 23))] [],.ret (.tup [(.bin .add (.bin .add (.lst [(.var 15),(.var 14),(.slc (.var 25) none (some (.lit (.int 3))))]) (.var 23)) (.var 18)),(.tup [(.idx (.var 15) (.lit (.int 0))),(.idx (.var 25) (.lit (.int 0))),(.var 13)]),(.tup [(.idx (.var 15) (.lit (.int 0))),(.idx (.var 25) (.lit (.int 3))),(.var 24)])])] [],.if_ (.cmp .eq (.var 0) (.lit (.int 1))) [.assign 26 (.call 29 [(.tup [(.tup [(.lit (.bytes [43,32])),(.neg 1),(.lit (.bytes [43,32]))])]),(.tup [(.tup [(.lit (.bytes [43,120])),(.lit (.int 1)),(.lit (.bytes [43,32]))])]),(.var 10),(.cmp .eq (.var 1) (.lit (.int 3)))]),.ret (.tup [(.bin .add (.lst [(.var 26),(.var 17)]) (.var 18)),(.tup [(.lit (.str [99,111,110,116,105,110,117,101])),(.idx (.var 17) (.lit (.int 0)))]),(.tup [(.lit (.str [99,111,110,116,105,110,117,101])),(.idx (.var 17) (.lit (.int 0)))])])] [],.if_ (.cmp .eq (.var 0) (.lit (.int 2))) [.assign 26 (.call 29 [(.tup [(.tup [(.lit (.bytes [42,32])),(.neg 1),(.lit (.bytes [42,32]))])]),(.tup [(.tup [(.lit (.bytes [42,120])),(.lit (.int 1)),(.lit (.bytes [42,32]))])]),(.var 10),(.cmp .eq (.var 1) (.lit (.int 3)))]),.ret (.tup [(.bin .add (.bin .add (.lst [(.var 26)]) (.var 23)) (.var 18)),(.tup [(.lit (.str [100,97,116,97])),(.var 13)]),(.tup [(.lit (.str [100,97,116,97])),(.var 24)])])] [],.assign 19 (.tup [(.tup [(.lit (.bytes [111,75])),(.neg 1),(.lit (.bytes [79,75])),(.lit (.bytes [79,75]))]),(.tup [(.lit (.bytes [78,79])),(.neg 1),(.lit (.bytes [78,79])),(.lit (.bytes [78,79]))]),(.tup [(.lit (.bytes [98,65,100])),(.neg 1),(.lit (.bytes [66,65,68])),(.lit (.bytes [66,65,68]))]),(.tup [(.lit (.bytes [66,121,101])),(.neg 1),(.lit (.bytes [66,89,69])),(.lit (.bytes [66,89,69]))])]),.assign 20 (.call 29 [(.var 19),(.tup [(.tup [(.lit (.bytes [111,75,120])),(.lit (.int 2)),(.lit .none),(.lit (.bytes [111,75]))]),(.tup [(.lit (.bytes [66,89,68])),(.lit (.int 2)),(.lit .none),(.lit (.bytes [66,89,69,32]))]),(.tup [(.lit (.bytes [120])),(.lit (.int 0)),(.lit .none),(.lit (.bytes []))]),(.tup [(.lit (.bytes [32])),(.lit (.int 0)),(.lit .none),(.lit (.bytes [111,107]))]),(.tup [(.lit (.bytes [66,65,68,88])),(.lit (.int 3)),(.lit .none),(.lit (.bytes [66,65]))]),(.tup [(.lit (.bytes [110,111,45])),(.lit (.int 2)),(.lit .none),(.lit (.bytes [110,111]))])]),(.var 11),(.and_ [(.cmp .eq (.var 1) (.lit (.int 4))),(.cmp .eq (.var 5) (.lit (.int 0)))])]),.assign 21 (.idx (.var 15) (.lit (.int 0))),.if_ (.cmp .gt (.var 5) (.lit (.int 0))) [.assignT false [21,15] (.tup [(.lit (.bytes [])),(.tup [(.lit (.bytes [42])),(.neg 1),(.lit (.bytes [42]))])])] [],.assign 22 (.lst [(.var 15),(.var 14),(.slc (.var 20) none (some (.lit (.int 3)))),(.var 14)]),.if_ (.cmp .eq (.var 4) (.lit (.int 0))) [.if_ (.cmp .eq (.idx (.var 17) (.lit (.int 0))) (.lit (.bytes [91]))) [.assign 17 (.tup [(.lit (.bytes [91])),(.lit (.int 1)),(.lit .none)])] [],.ret (.tup [(.bin .add (.bin .add (.var 22) (.lst [(.var 17)])) (.var 18)),(.tup [(.lit (.str [115,116,97,116,117,115])),(.var 21),(.idx (.var 20) (.lit (.int 3))),(.lit .none),(.idx (.var 17) (.lit (.int 0)))]),(.tup [(.lit (.str [115,116,97,116,117,115])),(.var 21),(.idx (.var 20) (.lit (.int 3))),(.lit .none),(.idx (.var 17) (.lit (.int 0)))])])] [],.assignT false [27,28] (.tup [(.tup [(.lit (.bytes [91])),(.neg 1),(.lit (.bytes [91]))]),(.tup [(.lit (.bytes [93,32])),(.neg 1),(.lit (.bytes [93,32]))])]),.if_ (.cmp .eq (.var 1) (.lit (.int 6))) [.assign 13 (.lst []),.assignT false [27,28] (.idx (.tup [(.tup [(.tup [(.lit (.bytes [91,93])),(.lit (.int 1)),(.lit .none)]),(.var 28)]),(.tup [(.tup [(.lit (.bytes [91,32])),(.lit (.int 1)),(.lit .none)]),(.var 28)]),(.tup [(.var 27),(.tup [(.lit (.bytes [93,120])),(.lit (.int 1)),(.lit .none)])]),(.tup [(.var 27),(.tup [(.lit (.bytes [93,32,91])),(.lit (.int 2)),(.lit .none)])]),(.tup [(.var 27),(.tup [(.lit (.bytes [32,93])),(.lit (.int 1)),(.lit .none)])])]) (.bin .mod (.var 10) (.lit (.int 5))))] [],.ret (.tup [(.bin .add (.bin .add (.bin .add (.bin .add (.var 22) (.lst [(.var 27)])) (.var 23)) (.lst [(.var 28),(.var 17)])) (.var 18)),(.tup [(.lit (.str [115,116,97,116,117,115])),(.var 21),(.idx (.var 20) (.lit (.int 3))),(.var 13),(.idx (.var 17) (.lit (.int 0)))]),(.tup [(.lit (.str [115,116,97,116,117,115])),(.var 21),(.idx (.var 20) (.lit (.int 3))),(.var 24),(.idx (.var 17) (.lit (.int 0)))])])]
noncomputable def vf_law_join : List Str := [Str.ofString "parts",Str.ofString "canon",Str.ofString "data",Str.ofString "edge",Str.ofString "wire",Str.ofString "at",Str.ofString "own"]
noncomputable def cf_law_join:List CS:=[.assignT false [2,3] (.tup [(.lit (.bytes [])),(.neg 1)]),.forT [4,5,6] (.var 0) [.if_ (.and_ [(.cmp .ge (.var 5) (.lit (.int 0))),(.cmp .lt (.var 3) (.lit (.int 0)))]) [.assign 3 (.bin .add (.len (.var 2)) (.var 5))] [],.assign 2 (.bin .add (.var 2) (.var 4))],.assign 1 (.comp (.idx (.var 0) (.lit (.int 2))) (.var 0) none),.if_ (.cmp .in_ (.lit .none) (.var 1)) [.ret (.tup [(.var 2),(.var 3),(.lit (.str [114,101,102,117,115,101,100]))])] [],.ret (.tup [(.var 2),(.var 3),(.join (.lit (.bytes [])) (.var 1))])]
noncomputable def vf_law_write : List Str := [Str.ofString "kind",Str.ofString "line",Str.ofString "got"]
noncomputable def cf_law_write:List CS:=[.try_ 2 (.ite (.cmp .eq (.var 0) (.lit (.int 0))) (.call 27 [(.var 1)]) (.call 23 [(.var 1)])) 2 (.str [114,101,102,117,115,101,100]),.ret (.var 2)]
noncomputable def vf_law_read : List Str := [Str.ofString "kind",Str.ofString "data",Str.ofString "depth",Str.ofString "got"]
noncomputable def cf_law_read:List CS:=[.try_ 3 (.ite (.cmp .eq (.var 0) (.lit (.int 0))) (.call 28 [(.var 1),(.var 2)]) (.call 26 [(.var 1),(.var 2)])) 3 (.str [114,101,102,117,115,101,100]),.ret (.var 3)]
noncomputable def vf_law : List Str := [Str.ofString "script",Str.ofString "kind",Str.ofString "spot",Str.ofString "depth",Str.ofString "twin",Str.ofString "handed",Str.ofString "got",Str.ofString "want",Str.ofString "cut",Str.ofString "piece",Str.ofString "size",Str.ofString "coded",Str.ofString "star",Str.ofString "k",Str.ofString "parts",Str.ofString "line",Str.ofString "due",Str.ofString "data",Str.ofString "edge",Str.ofString "canon",Str.ofString "value"]
noncomputable def cf_law:List CS:=[.if_ (.cmp .lt (.len (.var 0)) (.lit (.int 14))) [.ret (.lit (.bool true))] [],.assign 1 (.idx (.tup [(.lit (.int 0)),(.lit (.int 0)),(.lit (.int 0)),(.lit (.int 1)),(.lit (.int 2)),(.lit (.int 2)),(.lit (.int 3)),(.lit (.int 3)),(.lit (.int 3))]) (.bin .mod (.idx (.var 0) (.lit (.int 0))) (.lit (.int 9)))),.assign 2 (.bin .mod (.idx (.var 0) (.lit (.int 1))) (.lit (.int 12))),.assign 3 (.bin .add (.lit (.int 1)) (.bin .mod (.idx (.var 0) (.lit (.int 2))) (.lit (.int 3)))),.assignT false [10,11,12,13] (.tup [(.bin .mod (.idx (.var 0) (.lit (.int 3))) (.lit (.int 6))),(.bin .mod (.idx (.var 0) (.lit (.int 4))) (.lit (.int 2))),(.bin .mod (.idx (.var 0) (.lit (.int 5))) (.lit (.int 2))),(.bin .mod (.idx (.var 0) (.lit (.int 6))) (.lit (.int 3)))]),.assignT false [14,15,16] (.call 32 [(.var 1),(.var 2),(.var 3),(.var 10),(.var 11),(.var 12),(.var 13),(.idx (.var 0) (.lit (.int 7))),(.idx (.var 0) (.lit (.int 8))),(.idx (.var 0) (.lit (.int 9))),(.idx (.var 0) (.lit (.int 10))),(.idx (.var 0) (.lit (.int 11))),(.idx (.var 0) (.lit (.int 12)))]),.assign 4 (.call 32 [(.var 1),(.var 2),(.var 3),(.var 10),(.var 11),(.var 12),(.var 13),(.idx (.var 0) (.lit (.int 7))),(.idx (.var 0) (.lit (.int 8))),(.idx (.var 0) (.lit (.int 9))),(.idx (.var 0) (.lit (.int 10))),(.idx (.var 0) (.lit (.int 11))),(.idx (.var 0) (.lit (.int 12)))]),.assignT false [17,18,19] (.call 33 [(.var 14)]),.assign 5 (.var 15),.if_ (.cmp .eq (.var 2) (.lit (.int 8))) [.assign 5 (.bin .add (.var 15) (.tup [(.lit (.int 0))]))] [],.assign 6 (.call 34 [(.var 1),(.var 5)]),.if_ (.or_ [(.cmp .ne (.var 6) (.var 19)),(.cmp .ne (.var 15) (.idx (.var 4) (.lit (.int 1))))]) [.ret (.lit (.bool false))] [],.if_ (.and_ [(.cmp .ne (.var 19) (.lit (.str [114,101,102,117,115,101,100]))),(.not_ (.typeIs (.var 6) .bytes))]) [.ret (.lit (.bool false))] [],.assign 7 (.lit (.str [114,101,102,117,115,101,100])),.if_ (.cmp .lt (.var 18) (.lit (.int 0))) [.assignT true [18,7] (.tup [(.bin .sub (.len (.var 17)) (.lit (.int 1))),(.tup [(.var 16),(.len (.var 17))])])] [],.for_ 8 (.tup [(.bin .mod (.idx (.var 0) (.lit (.int 13))) (.bin .add (.var 18) (.lit (.int 1)))),(.var 18)]) [.if_ (.cmp .isNot (.call 35 [(.var 1),(.slc (.var 17) none (some (.var 8))),(.var 3)]) (.lit .none)) [.ret (.lit (.bool false))] []],.for_ 9 (.tup [(.slc (.var 17) none (some (.bin .add (.var 18) (.lit (.int 1))))),(.bin .add (.var 17) (.lit (.bytes [32,40,13,10])))]) [.assign 6 (.call 35 [(.var 1),(.var 9),(.var 3)]),.if_ (.cmp .ne (.var 6) (.var 7)) [.ret (.lit (.bool false))] []],.if_ (.cmp .eq (.var 7) (.lit (.str [114,101,102,117,115,101,100]))) [.ret (.lit (.bool true))] [],.if_ (.not_ (.typeIs (.idx (.var 6) (.lit (.int 1))) .int)) [.ret (.lit (.bool false))] [],.if_ (.cmp .eq (.bin .mod (.var 1) (.lit (.int 2))) (.lit (.int 0))) [.for_ 20 (.idx (.idx (.var 6) (.lit (.int 0))) (.neg 1)) [.if_ (.and_ [(.cmp .eq (.idx (.var 20) (.lit (.int 0))) (.lit (.str [110,117,109,98,101,114]))),(.not_ (.typeIs (.idx (.var 20) (.lit (.int 1))) .int))]) [.ret (.lit (.bool false))] []]] [],.ret (.lit (.bool true))]
noncomputable def fnames : List Str := [Str.ofString "_need",Str.ofString "_is_digit",Str.ofString "_is_letter",Str.ofString "_is_tag_char",Str.ofString "_is_atom_char",Str.ofString "_all_digits",Str.ofString "_digits_value",Str.ofString "_decimal",Str.ofString "_upper",Str.ofString "_is_tag",Str.ofString "_is_name",Str.ofString "_read_run",Str.ofString "_read_crlf",Str.ofString "_is_atom_text",Str.ofString "_quotable",Str.ofString "_quote",Str.ofString "write_value",Str.ofString "_read_list",Str.ofString "_read_quoted",Str.ofString "_read_literal",Str.ofString "_read_word",Str.ofString "read_value",Str.ofString "_check_text",Str.ofString "write_line",Str.ofString "_read_text",Str.ofString "_status_word",Str.ofString "read_line",Str.ofString "write_command",Str.ofString "read_command",Str.ofString "_law_pick",Str.ofString "_law_leaf",Str.ofString "_law_values",Str.ofString "_law_make",Str.ofString "_law_join",Str.ofString "_law_write",Str.ofString "_law_read",Str.ofString "law"]
noncomputable def gnames : List Str := [Str.ofString "_LIMIT",Str.ofString "_STATUS"]
noncomputable def tabs:List CF:=[
 .code vf_need 1 cf_need,
 .code vf_is_digit 1 cf_is_digit,
 .code vf_is_letter 1 cf_is_letter,
 .code vf_is_tag_char 1 cf_is_tag_char,
 .code vf_is_atom_char 1 cf_is_atom_char,
 .code vf_all_digits 1 cf_all_digits,
 .code vf_digits_value 1 cf_digits_value,
 .native nf_decimal,
 .code vf_upper 1 cf_upper,
 .code vf_is_tag 1 cf_is_tag,
 .code vf_is_name 1 cf_is_name,
 .code vf_read_run 3 cf_read_run,
 .code vf_read_crlf 2 cf_read_crlf,
 .code vf_is_atom_text 1 cf_is_atom_text,
 .code vf_quotable 1 cf_quotable,
 .code vf_quote 1 cf_quote,
 .code vf_write_value 1 cf_write_value,
 .code vf_read_list 3 cf_read_list,
 .code vf_read_quoted 2 cf_read_quoted,
 .code vf_read_literal 2 cf_read_literal,
 .code vf_read_word 2 cf_read_word,
 .code vf_read_value 3 cf_read_value,
 .code vf_check_text 1 cf_check_text,
 .code vf_write_line 1 cf_write_line,
 .code vf_read_text 2 cf_read_text,
 .code vf_status_word 2 cf_status_word,
 .code vf_read_line 2 cf_read_line,
 .code vf_write_command 1 cf_write_command,
 .code vf_read_command 2 cf_read_command,
 .code vf_law_pick 4 cf_law_pick,
 .code vf_law_leaf 3 cf_law_leaf,
 .code vf_law_values 8 cf_law_values,
 .code vf_law_make 13 cf_law_make,
 .code vf_law_join 1 cf_law_join,
 .code vf_law_write 2 cf_law_write,
 .code vf_law_read 3 cf_law_read,
 .code vf_law 1 cf_law]
noncomputable def T (f:Nat):Option CF:=tabs[f]?
noncomputable def G:Nat→Res PV
 | 0=>.ok (.int 4294967296)
 | 1=>.ok (.tuple [.bytes [79,75],.bytes [78,79],.bytes [66,65,68],.bytes [66,89,69]])
 | _=>.stuck
theorem lib:Lib T G:=⟨rfl,rfl,rfl,rfl,rfl,rfl,rfl,rfl,rfl,rfl,rfl,rfl,rfl,rfl,rfl,rfl,rfl,rfl,rfl,rfl,rfl,rfl,rfl,rfl,rfl,rfl,rfl,rfl,rfl,rfl,rfl⟩
end L2
end Mine
namespace Mine
open PySem
noncomputable def bInt (b:Array UInt8):List Int:=b.toList.map fun c=>(c.toNat:Int)
mutual
noncomputable def Rep (H:Heap):PV→Value→Prop
 | .none,v=>v=.none
 | .bool b,v=>v=.bool b
 | .int i,v=>∃ t,v=.int i t
 | .flt x,v=>∃ t,v=.float x t∧t≠0
 | .str l,v=>∃ s t,v=.str s t∧s.cps.toList=l
 | .bytes l,v=>∃ b t,v=.bytes b t∧bInt b=l∧l.length≤1048576
 | .tuple l,v=>∃ a ws,v=.ref a∧H.IsTuple a ws.toArray∧l.length≤1048576∧RepL H l ws
 | .list l,v=>∃ a ws,v=.ref a∧H.IsList a ws.toArray∧l.length≤1048576∧RepL H l ws
 | .dict0,v => ∃ a o n,v = .ref a ∧ H.get? a = some o ∧ o.cls = .type "dict" ∧ o.dict = none ∧ o.data = .dict #[] n ∧ (a == sysModules) = false ∧ o.slots = #[]
noncomputable def RepL (H:Heap):List PV→List Value→Prop
 | [],ws=>ws=[]
 | p::r,ws=>∃ w t,ws=w::t∧Rep H p w∧RepL H r t
end
noncomputable def Sub (H H':Heap):Prop:=∀ b o,H.get? b=some o→(∀ vs,o.data≠.fields vs)→H'.get? b=some o
theorem Sub.of {H H':Heap} (h:H.StaysIn H'):Sub H H':=fun b o e _=>h b o e
mutual
theorem Rep.sub {H H':Heap} (h:Sub H H'):∀ {p:PV} {v:Value},Rep H p v→Rep H' p v
 | .none,_,x=>by simpa [Rep] using x
 | .bool _,_,x=>by simpa [Rep] using x
 | .int _,_,x=>by simpa [Rep] using x
 | .flt _,_,x=>by simpa [Rep] using x
 | .str _,_,x=>by simpa [Rep] using x
 | .bytes _,_,x=>by simpa [Rep] using x
 | .tuple l,v,x=>by
  rw [Rep] at x ⊢
  obtain ⟨a,ws,e,⟨o,ho,hc,n,hd⟩,hl,hr⟩:=x
  exact ⟨a,ws,e,⟨o,h _ _ ho (fun vs q=>by rw [hd] at q; cases q),hc,n,hd⟩,hl,RepL.sub h hr⟩
 | .list l,v,x=>by
  rw [Rep] at x ⊢
  obtain ⟨a,ws,e,⟨o,ho,hc,n,hd⟩,hl,hr⟩:=x
  exact ⟨a,ws,e,⟨o,h _ _ ho (fun vs q=>by rw [hd] at q; cases q),hc,n,hd⟩,hl,RepL.sub h hr⟩
 | .dict0,v,x=>by
  rw [Rep] at x ⊢
  obtain ⟨a,o,n,e,ho,hc,hdd,hd,hne⟩:=x
  exact ⟨a,o,n,e,h _ _ ho (fun vs q=>by rw [hd] at q; cases q),hc,hdd,hd,hne⟩
theorem RepL.sub {H H':Heap} (h:Sub H H'):∀ {l:List PV} {ws:List Value},RepL H l ws→RepL H' l ws
 | [],_,x=>by simpa [RepL] using x
 | p::r,ws,x=>by
  rw [RepL] at x ⊢
  obtain ⟨w,t,e,hp,hr⟩:=x
  exact ⟨w,t,e,Rep.sub h hp,RepL.sub h hr⟩
end
theorem Rep.mono {H H':Heap} (h:H.StaysIn H') {p:PV} {v:Value} (x:Rep H p v):Rep H' p v:=x.sub (.of h)
theorem RepL.mono {H H':Heap} (h:H.StaysIn H') {l:List PV} {ws:List Value} (x:RepL H l ws):RepL H' l ws:=x.sub (.of h)
theorem RepL.length {H:Heap}:∀ {l:List PV} {ws:List Value},RepL H l ws→ws.length=l.length
 | [],_,x=>by rw [RepL] at x; subst x; rfl
 | p::r,ws,x=>by
  rw [RepL] at x
  obtain ⟨w,t,e,_,hr⟩:=x
  subst e; simp [RepL.length hr]
theorem RepL.get {H:Heap}:∀ {l:List PV} {ws:List Value} {i:Nat} {p:PV},RepL H l ws→l[i]?=some p→∃ w,ws[i]?=some w∧Rep H p w
 | [],_,_,_,_,e=>by simp at e
 | p::r,ws,i,q,x,e=>by
  rw [RepL] at x
  obtain ⟨w,t,rfl,hp,hr⟩:=x
  cases i with
  | zero=>simp at e; subst e; exact ⟨w,by simp,hp⟩
  | succ i=>simp at e; obtain ⟨w',h1,h2⟩:=RepL.get hr e; exact ⟨w',by simpa using h1,h2⟩
theorem RepL.append {H:Heap}:∀ {l m:List PV} {ws us:List Value},RepL H l ws→RepL H m us→RepL H (l++m) (ws++us)
 | [],_,_,_,x,y=>by rw [RepL] at x; subst x; simpa using y
 | p::r,m,ws,us,x,y=>by
  rw [RepL] at x
  obtain ⟨w,t,rfl,hp,hr⟩:=x
  show RepL H (p::(r++m)) (w::(t++us))
  rw [RepL]
  exact ⟨w,_,rfl,hp,RepL.append hr y⟩
theorem RepL.one {H:Heap} {p:PV} {v:Value} (x:Rep H p v):RepL H [p] [v]:=by
 rw [RepL]; exact ⟨v,[],rfl,x,by rw [RepL]⟩
theorem RepL.drop {H:Heap}:∀ {l:List PV} {ws:List Value} (n:Nat),RepL H l ws→RepL H (l.drop n) (ws.drop n)
 | l,ws,0,x=>by simpa using x
 | [],ws,n+1,x=>by rw [RepL] at x; subst x; simp [RepL]
 | p::r,ws,n+1,x=>by
  rw [RepL] at x
  obtain ⟨w,t,rfl,_,hr⟩:=x
  simpa using RepL.drop n hr
theorem RepL.take {H:Heap}:∀ {l:List PV} {ws:List Value} (n:Nat),RepL H l ws→RepL H (l.take n) (ws.take n)
 | l,ws,0,x=>by simp [RepL]
 | [],ws,n+1,x=>by rw [RepL] at x; subst x; simp [RepL]
 | p::r,ws,n+1,x=>by
  rw [RepL] at x
  obtain ⟨w,t,rfl,hp,hr⟩:=x
  show RepL H (p::r.take n) (w::t.take n)
  rw [RepL]
  exact ⟨w,_,rfl,hp,RepL.take n hr⟩
noncomputable def only (h:Heap) (P:Addr→Bool):Heap:=⟨h.objs.mapIdx fun i o=>if P i then o else { o with data:=.freed },h.life⟩
theorem only_get (h:Heap) (P:Addr→Bool) (b:Addr):(only h P).get? b=if P b then h.get? b else none:=by
 obtain ⟨objs,lf⟩:=h
 unfold only Heap.get?
 simp only [Array.getElem?_mapIdx]
 cases hx:objs[b]? with
 | none=>simp
 | some o =>
  obtain ⟨c,d,dt,sl⟩:=o
  cases hp:P b <;> simp
theorem add_exists {H h:Heap} (hs:H.StaysIn h) {a:Addr} {o:Obj} (ho:h.get? a=some o) :
  ∃ H',H.StaysIn H'∧H'.StaysIn h∧H'.get? a=some o∧∀ b,b≠a→H'.get? b=H.get? b:=by
 refine ⟨only h (fun b=>(H.get? b).isSome || b == a),fun b o' e=>?_,fun b o' e=>?_,?_,fun b hb=>?_⟩
 ·rw [only_get,e]; simpa using hs b o' e
 ·rw [only_get] at e; split at e
  ·exact e
  ·cases e
 ·rw [only_get]; simpa using ho
 ·rw [only_get]
  cases e:H.get? b with
  | none=>simp [hb]
  | some o'=>simpa using hs b o' e
theorem stays_refl (h:Heap):h.StaysIn h:=fun _ _ e=>e
theorem nc {p:Prop} (h:(p→False)→False):p:=Classical.byContradiction h
theorem stays_trans {h₁ h₂ h₃:Heap} (x:h₁.StaysIn h₂) (y:h₂.StaysIn h₃):h₁.StaysIn h₃:=fun b o e=>y b o (x b o e)
theorem stays_push (h:Heap) (o:Obj):h.StaysIn (h.push o):=fun _ _ e=>Heap.get?_push_of_some o e
theorem none_of_stays {h₁ h₂:Heap} (x:h₁.StaysIn h₂) {b:Addr} (e:h₂.get? b=none):h₁.get? b=none:=by
 cases q:h₁.get? b with
 | none=>rfl
 | some o=>have:=x b o q; rw [e] at this; cases this
theorem none_of_size {h:Heap} {b:Addr} (e:h.objs.size≤b):h.get? b=none:=by
 cases q:h.get? b with
 | none=>rfl
 | some o=>exact absurd (Heap.lt_size q) (Nat.not_lt.mpr e)
noncomputable def NF (o:Obj):Prop:=∀ vs,o.data≠.fields vs
structure Ext (H:Heap) (s:Shared) (H':Heap) (s':Shared):Prop where
 grow:H.StaysIn H'
 old:∀ b o,s.heap.get? b=some o→NF o→H.get? b=none→H'.get? b=none
 stays:H'.StaysIn s'.heap
 ups:s.heap.UpToSlots s'.heap
 same:s'.os=s.os∧s'.gens=s.gens
theorem Ext.refl {H:Heap} {s s':Shared} (x:H.StaysIn s.heap) (k:s'.heap=s.heap∧s'.os=s.os∧s'.gens=s.gens:=by exact ⟨rfl,rfl,rfl⟩):Ext H s H s' :=
 ⟨stays_refl _,fun _ _ _ _ e=>e,by rw [k.1]; exact x,by rw [k.1]; exact .refl _,k.2⟩
theorem Ext.trans {H H' H'':Heap} {s s' s'':Shared} (x:Ext H s H' s') (y:Ext H' s' H'' s''):Ext H s H'' s'' :=
 ⟨stays_trans x.grow y.grow,fun b o hb n e=>let ⟨_,q⟩:=x.ups b o hb n; y.old b _ q n (x.old b o hb n e),y.stays,x.ups.trans y.ups,y.same.1.trans x.same.1,y.same.2.trans x.same.2⟩
theorem Ext.push {H:Heap} {s s':Shared} (x:H.StaysIn s.heap) (o:Obj) (k:s'.heap=s.heap.push o∧s'.os=s.os∧s'.gens=s.gens:=by exact ⟨rfl,rfl,rfl⟩):Ext H s H s' :=
 ⟨stays_refl _,fun _ _ _ _ e=>e,by rw [k.1]; exact stays_trans x (stays_push _ _),by rw [k.1]; exact .of_keeps (stays_push _ _),k.2⟩
theorem Ext.alloc {H:Heap} {s:Shared} (x:H.StaysIn s.heap) (o:Obj) (hf:o.isFreed=false):∃ H',(∀ s':Shared,(s'.heap=s.heap.push o∧s'.os=s.os∧s'.gens=s.gens)→Ext H s H' s')∧H'.get? s.heap.objs.size=some o:=by
 obtain ⟨H',h1,h2,h3,h4⟩:=add_exists (stays_trans x (stays_push s.heap o)) (Heap.get?_push_size s.heap hf)
 refine ⟨H',fun s' k=>⟨h1,fun b o' hb _ e=>?_,by rw [k.1]; exact h2,by rw [k.1]; exact .of_keeps (stays_push _ _),k.2⟩,h3⟩
 rw [h4 b (Nat.ne_of_lt (Heap.lt_size hb))]; exact e
theorem Ext.keeps {H:Heap} {s s':Shared} (x:H.StaysIn s.heap) (k:s.heap.StaysIn s'.heap) (q:s'.os=s.os∧s'.gens=s.gens:=by exact ⟨rfl,rfl⟩):Ext H s H s' :=
 ⟨stays_refl _,fun _ _ _ _ e=>e,stays_trans x k,.of_keeps k,q⟩
structure ExtS (N₀:Nat) (H:Heap) (s:Shared) (H':Heap) (s':Shared):Prop where
 grow:H.StaysIn H'
 old:∀ b o,b<N₀→s.heap.get? b=some o→NF o→H.get? b=none→H'.get? b=none
 stays:H'.StaysIn s'.heap
 ups:∀ b o,b<N₀→s.heap.get? b=some o→NF o→∃ sl,s'.heap.get? b=some { o with slots:=sl }
 same:s'.os=s.os∧s'.gens=s.gens
theorem ExtS.refl {N₀:Nat} {H:Heap} {s s':Shared} (x:H.StaysIn s.heap) (k:s'.heap=s.heap∧s'.os=s.os∧s'.gens=s.gens:=by exact ⟨rfl,rfl,rfl⟩):ExtS N₀ H s H s' :=
 ⟨stays_refl _,fun _ _ _ _ _ e=>e,by rw [k.1]; exact x,fun _ o _ e _=>⟨o.slots,by rw [k.1]; exact e⟩,k.2⟩
theorem ExtS.trans {N₀:Nat} {H H' H'':Heap} {s s' s'':Shared} (x:ExtS N₀ H s H' s') (y:ExtS N₀ H' s' H'' s''):ExtS N₀ H s H'' s'' :=
 ⟨stays_trans x.grow y.grow,fun b o hb q n e=>let ⟨_,q'⟩:=x.ups b o hb q n; y.old b _ hb q' n (x.old b o hb q n e),y.stays,
  fun b o hb e hn=>let ⟨_,e₁⟩:=x.ups b o hb e hn; let ⟨sl,e₂⟩:=y.ups b _ hb e₁ hn; ⟨sl,e₂⟩,y.same.1.trans x.same.1,y.same.2.trans x.same.2⟩
theorem Ext.toS {N₀:Nat} {H H':Heap} {s s':Shared} (x:Ext H s H' s'):ExtS N₀ H s H' s' :=
 ⟨x.grow,fun b o _ q n e=>x.old b o q n e,x.stays,fun b o _ e hn=>x.ups b o e hn,x.same⟩
abbrev VE : Value := .type "ValueError"
noncomputable def Fresh (H:Heap) (l:List Env) (e:Addr) (h:Heap):Prop :=
 H.StaysIn h∧H.get? e=none∧h.FunFrames H l∧∃ oe vs a0,h.get? e=some oe∧oe.cls=VE∧oe.data=.fields vs∧vs[1]?=some .none∧vs[0]?=some a0
noncomputable def Flown (H:Heap) (l:List Env) (e:Addr) (h:Heap):Prop :=
 (∃ a0,Heap.FlyingW H l e VE a0 h)∨(∃ a0 L env r,l=env::r∧env.frame=some L∧Heap.HeldW H l e VE a0 L h)∨Fresh H l e h
theorem funFrames_base' {H H' h:Heap}:∀ {l:List Env},h.FunFrames H l→(∀ b o,h.get? b=some o→(∀ vs,o.data≠.fields vs)→H.get? b=none→H'.get? b=none)→h.FunFrames H' l
 | [],_,_=>trivial
 | _::_,⟨hk,⟨L,o,hf,hn,ho,hd⟩,hr⟩,k=>⟨hk,⟨L,o,hf,k L o ho hd hn,ho,hd⟩,funFrames_base' hr k⟩
theorem Flown.hide {H h:Heap} {l:List Env} {e:Addr} (I:Addr) (hst:H.StaysIn h) (x:Flown H l e h):Flown (H.hide I) l e h:=by
 have hs:(H.hide I).StaysIn h:=fun b o q=>hst b o (Heap.of_hide q)
 have hn:∀ b,H.get? b=none→(H.hide I).get? b=none:=fun b q=>none_of_stays (fun c o'=>Heap.of_hide) q
 have hf:h.FunFrames H l→h.FunFrames (H.hide I) l:=fun x=>funFrames_base' x fun b _ _ _ z=>hn b z
 rcases x with ⟨a0,x1,x2,x3,oe,vs,T,oT,ts,y1,y2,y3,y4,y5,y6⟩ | ⟨a0,L,env,r,y0,yL,x1,x2,x3,oe,vs,T,oT,ts,y1,y2,y3,y4,y5,y6⟩ | ⟨x1,x2,x3,y⟩
 ·exact .inl ⟨a0,hs,hn _ x2,hf x3,oe,vs,T,oT,ts,y1,y2,y3,y4,hn _ y5,y6⟩
 ·exact .inr (.inl ⟨a0,L,env,r,y0,yL,hs,hn _ x2,hf x3,oe,vs,T,oT,ts,y1,y2,y3,y4,hn _ y5,y6⟩)
 ·exact .inr (.inr ⟨hs,hn _ x2,hf x3,y⟩)
theorem frames_ext {H H':Heap} {s s':Shared} {l:List Env} (x:s.heap.FunFrames H l) (e:Ext H s H' s'):s'.heap.FunFrames H' l:=by
 have y:s.heap.FunFrames H' l:=funFrames_base' x fun b o ho hd hn=>e.old b o ho hd hn
 exact y.of_keeps fun b o ho hn=>let ⟨sl,q⟩:=e.ups b o ho hn; ⟨_,q,rfl⟩
end Mine
namespace Mine
open PySem
structure Ct where
 Base:Heap
 mg:Str→Option Value
 mb:Str→Option Value
 fs:List Str
 gs:List Str
 GV:Nat→Res PV
noncomputable def words : List Str := ["len","isinstance","bytes","type","int","list","tuple","range","ValueError","all"]
structure Ct.Ok (Γ:Ct):Prop where
 g:Γ.Base.Ns mainGlobals Γ.mg
 b:Γ.Base.Ns builtinsNs Γ.mb
 nolimit:Γ.Base.NoLimit
 statics:NoneBooked Γ.Base
 word:∀ x∈words,Γ.mg x=none∧Γ.mb x=bootBuiltins x
 const:∀ i x p,Γ.gs[i]?=some x→Γ.GV i=.ok p→∃ v,Γ.mg x=some v∧Rep Γ.Base p v
 constE:∀ i,Γ.GV i≠.exc
structure Bl where
 env:Env
 fenv:Env
 outer:List Env
 A:Around
 N₀:Nat
 vs:List Str
structure Bl.Ok (B:Bl) (d:Nat):Prop where
 kind:B.env.scope.kind=.function
 glob:B.env.globals=mainGlobals
 bui:B.env.builtins=builtinsNs
 fr:B.env.frame=B.fenv.frame
 stack:B.A.frames=some (B.fenv::B.outer)
 hand:B.A.handled=none
 depth:B.A.depth+d≤recursionLimit
 units:B.A.units+8 * d+100≤cLine
 nodup:B.vs.Nodup
 low:∀ v∈B.outer,∀ L,v.frame=some L→L<B.N₀
noncomputable def OwnAt (h : Heap) (a : Addr) (ws : List Value) : Prop := ∃ o n,h.get? a = some o ∧ o.cls = .type "list" ∧ o.dict = none ∧ o.data = .seq ws.toArray n
theorem OwnAt.list {h:Heap} {a:Addr} {ws:List Value} (x:OwnAt h a ws):h.IsList a ws.toArray:=let ⟨o,n,e,c,_,d⟩:=x; ⟨o,e,c,n,d⟩
theorem OwnAt.ups {h h':Heap} {a:Addr} {ws:List Value} (x:OwnAt h a ws) (u:h.UpToSlots h'):OwnAt h' a ws:=by
 obtain ⟨o,n,e,c,dd,d⟩:=x
 obtain ⟨sl,q⟩:=u a o e fun vs q=>by rw [d] at q; cases q
 exact ⟨_,n,q,c,dd,d⟩
noncomputable def SlotOk (H h:Heap) (N₀:Nat) (m:Str→Option Value) (oa:Nat→Addr) (i:Nat) (x:Str):Slot→Prop
 | .unset=>True
 | .val p=>∃ v,m x=some v∧Rep H p v
 | .own l=>l.length≤lim∧∃ ws,m x=some (.ref (oa i))∧OwnAt h (oa i) ws∧RepL H l ws∧H.get? (oa i)=none∧N₀≤oa i
structure Loc (B:Bl) (H:Heap) (ρ:List Slot) (s:Shared) (m:Str→Option Value) (oa:Nat→Addr):Prop where
 ns:s.heap.Ns B.env.locals m
 out:H.get? B.env.locals=none
 above:B.N₀≤B.env.locals
 slots:∀ i x,B.vs[i]?=some x→SlotOk H s.heap B.N₀ m oa i x (getS ρ i)
 apart:∀ i j l l',i≠j→getS ρ i=.own l→getS ρ j=.own l'→B.vs[i]?.isSome→B.vs[j]?.isSome→oa i≠oa j
structure St (Γ:Ct) (B:Bl) (H:Heap) (ρ:List Slot) (s:Shared):Prop where
 base:Γ.Base.StaysIn H
 stays:H.StaysIn s.heap
 frames:s.heap.FunFrames H (B.fenv::B.outer)
 loc:∃ m oa,Loc B H ρ s m oa
theorem St.ext {Γ:Ct} {B:Bl} {H H':Heap} {ρ:List Slot} {s s':Shared} (x:St Γ B H ρ s) (e:Ext H s H' s'):St Γ B H' ρ s':=by
 obtain ⟨m,oa,hn,hl,hN,hs,hd⟩:=x.loc
 refine ⟨stays_trans x.base e.grow,e.stays,frames_ext x.frames e,m,oa,e.ups.ns hn,?_,hN,fun i y hy=>?_,hd⟩
 ·obtain ⟨o,_,_,ho,hdd,_⟩:=hn
  exact e.old _ o ho (fun vs q=>by rw [hdd] at q; cases q) hl
 have:=hs i y hy
 revert this
 cases getS ρ i with
 | unset=>exact fun h=>h
 | val p=>exact fun ⟨v,h1,h2⟩=>⟨v,h1,h2.mono e.grow⟩
 | own l =>
  intro ⟨hz,ws,h1,h2,h3,h4,h5⟩
  obtain ⟨o,n,ho,_,_,hdd⟩:=id h2
  exact ⟨hz,ws,h1,h2.ups e.ups,h3.mono e.grow,e.old _ o ho (fun vs q=>by rw [hdd] at q; cases q) h4,h5⟩
noncomputable def Post {α β:Type} (R:Heap→α→β→Prop) (l:List Env) (H:Heap) (s:Shared) (r:Res α) (Q:β→Shared→Prop) (E:Value→Shared→Prop):Prop :=
 match r with
 | .ok p=>∀ v s' H',Ext H s H' s'→R H' p v→Q v s'
 | .exc=>∀ e s' H',Ext H s H' s'→Flown H' l e s'.heap→E (.ref e) s'
 | .stuck=>False
theorem Post.ext {α β:Type} {R:Heap→α→β→Prop} {l:List Env} {H H':Heap} {s s':Shared} {r:Res α} {Q:β→Shared→Prop} {E:Value→Shared→Prop}
  (x:Post R l H s r Q E) (e:Ext H s H' s'):Post R l H' s' r Q E:=by
 cases r with
 | ok p=>exact fun v s' H'' e' r=>x v s' H'' (e.trans e') r
 | exc=>exact fun v s' H'' e' r=>x v s' H'' (e.trans e') r
 | stuck=>exact x
theorem Post.bind {α β α' β':Type} {R:Heap→α→β→Prop} {R':Heap→α'→β'→Prop} {l:List Env} {H:Heap} {s:Shared} {r:Res α} {k:α→Res α'}
  {Q:β→Shared→Prop} {Q':β'→Shared→Prop} {E:Value→Shared→Prop} (x:Post R' l H s (r.bind k) Q' E)
  (hq:∀ p v s' H',r=.ok p→Ext H s H' s'→R H' p v→Post R' l H' s' (k p) Q' E→Q v s'):Post R l H s r Q E:=by
 cases r with
 | ok p=>exact fun v s' H' e rr=>hq p v s' H' rfl e rr (Post.ext x e)
 | exc=>exact x
 | stuck=>exact x
theorem Post.ok {α β:Type} {R:Heap→α→β→Prop} {l:List Env} {H:Heap} {s:Shared} {p:α} {Q:β→Shared→Prop} {E:Value→Shared→Prop}
  (x:Post R l H s (.ok p) Q E) {v:β} {s':Shared} {H':Heap} (e:Ext H s H' s') (r:R H' p v):Q v s':=x v s' H' e r
section
variable (prog:Program) (w:World) (Γ:Ct) (B:Bl)
noncomputable def SE (e:Expr) (f:List Slot→Res PV):Prop :=
 ∀ H ρ s (Q E:Value→Shared→Prop),St Γ B H ρ s→Post Rep (B.fenv::B.outer) H s (f ρ) Q E→wpAny (model prog w) B.A (eval e B.env) Q E s
noncomputable def SB (e:Expr) (f:List Slot→Res Bool):Prop :=
 ∀ H ρ s (Q:Bool→Shared→Prop) (E:Value→Shared→Prop),St Γ B H ρ s→Post (fun _ a b=>a=b) (B.fenv::B.outer) H s (f ρ) Q E →
  wpAny (model prog w) B.A (isTrue e B.env (eval e B.env)) Q E s
noncomputable def SO (t:Sem Value) (H:Heap) (s:Shared) (r:Res PV):Prop :=
 ∀ (Q E:Value→Shared→Prop),Post Rep (B.fenv::B.outer) H s r Q E→wpAny (model prog w) B.A t Q E s
end
section
variable {prog:Program} {w:World} {Γ:Ct} {B:Bl}
theorem se_lit {c:Const} {k:Nat} {pos:Pos} {v:PV} (h:litOk c v=true) (hb:∀ l,v=.bytes l→l.length≤1048576):SE prog w Γ B (.Constant c k pos) (fun _=>.ok v):=by
 intro H ρ s Q E hs hp
 rw [eval_Constant]
 cases v with
 | none=>cases of_decide_eq_true h; exact wpAny_pure (hp.ok (.refl hs.stays) rfl)
 | bool b=>cases of_decide_eq_true h; exact wpAny_pure (hp.ok (.refl hs.stays) rfl)
 | int i=>cases of_decide_eq_true h; exact fun _ _ _=>hp.ok (.refl hs.stays) ⟨_,rfl⟩
 | str x=>exact onstr_k (P:=fun c=>wpAny (model prog w) B.A (constValue B.env c) Q E s) h fun a h _ _ _=>hp.ok (.refl hs.stays) ⟨_,_,rfl,eq_of_beq h⟩
 | bytes x=>exact onbytes_k (P:=fun c=>wpAny (model prog w) B.A (constValue B.env c) Q E s) h fun a h _ _ _=>hp.ok (.refl hs.stays) ⟨_,_,rfl,eq_of_beq h,hb _ rfl⟩
 | _=>exact ff h
theorem var_names {N : Nm} {x : Str} {i : Nat} (h : N.isVar x i = true) : N.vs[i]? = some x ∧ N.names.lookup x = some .local ∧ (x == ("__debug__" : Str)) = false := by
 unfold Nm.isVar at h
 simp only [Bool.and_eq_true,beq_iff_eq,Bool.not_eq_true'] at h
 exact ⟨h.1.1,h.1.2,h.2⟩
theorem glob_names {N : Nm} {x : Str} (h : N.isGlob x = true) : N.names.lookup x = some .globalImplicit ∧ (x == ("__debug__" : Str)) = false := by
 unfold Nm.isGlob at h
 simp only [Bool.and_eq_true,beq_iff_eq,Bool.not_eq_true'] at h
 exact h
theorem se_var {d : Nat} (hB : B.Ok d) {x : Str} {pos : Pos} {i : Nat} (hv : B.vs[i]? = some x) (hk : B.env.kindOf x = some .local) (hd : (x == ("__debug__" : Str)) = false) :
  SE prog w Γ B (.Name x pos) (fun ρ=>match getS ρ i with | .val v=>.ok v | _=>.stuck):=by
 intro H ρ s Q E hs hp
 obtain ⟨m,oa,hn,hl,hN,hsl,hdd⟩:=hs.loc
 have:=hsl i x hv
 cases hg:getS ρ i with
 | unset=>simp only [hg] at hp; exact hp.elim
 | own l=>simp only [hg] at hp; exact hp.elim
 | val p =>
  simp only [hg] at hp
  rw [hg] at this
  obtain ⟨v,hm,hr⟩:=this
  exact wpAny_Name (wpAny_loadName_local hB.kind hk hn hm (hp.ok (.refl hs.stays) hr)) hd
theorem top_name {d : Nat} (hΓ : Γ.Ok) (hB : B.Ok d) {x : Str} {pos : Pos} {v : Value} (hk : B.env.kindOf x = some .globalImplicit) (hd : (x == ("__debug__" : Str)) = false)
  (hm:Γ.mg x=some v) {H:Heap} {ρ:List Slot} {s:Shared} (hs:St Γ B H ρ s) {Q E:Value→Shared→Prop} (h:Q v s):wpAny (model prog w) B.A (eval (.Name x pos) B.env) Q E s :=
 Calls.Name_function_global hB.kind hk (Calls.loadGlobal_global (by rw [hB.glob]; exact hΓ.g.keeps (stays_trans hs.base hs.stays)) hm h) hd
theorem word_name {d : Nat} (hΓ : Γ.Ok) (hB : B.Ok d) {x : Str} {pos : Pos} {v : Value} (hk : B.env.kindOf x = some .globalImplicit) (hd : (x == ("__debug__" : Str)) = false)
  (hw:x∈words) (hb:bootBuiltins x=some v) {H:Heap} {ρ:List Slot} {s:Shared} (hs:St Γ B H ρ s) {Q E:Value→Shared→Prop} (h:Q v s) :
  wpAny (model prog w) B.A (eval (.Name x pos) B.env) Q E s :=
 Calls.Name_function_global hB.kind hk (Calls.loadGlobal_builtin (by rw [hB.glob]; exact hΓ.g.keeps (stays_trans hs.base hs.stays)) (hΓ.word x hw).1
  (by rw [hB.bui]; exact hΓ.b.keeps (stays_trans hs.base hs.stays)) ((hΓ.word x hw).2.trans hb) h) hd
theorem se_glob {d : Nat} (hΓ : Γ.Ok) (hB : B.Ok d) {x : Str} {pos : Pos} {i : Nat} (hg : Γ.gs[i]? = some x) (hk : B.env.kindOf x = some .globalImplicit) (hd : (x == ("__debug__" : Str)) = false) :
  SE prog w Γ B (.Name x pos) (fun _=>Γ.GV i):=by
 intro H ρ s Q E hs hp
 cases hv:Γ.GV i with
 | stuck=>simp only [hv] at hp; exact hp.elim
 | exc=>exact absurd hv (hΓ.constE i)
 | ok p =>
  simp only [hv] at hp
  obtain ⟨v,hm,hr⟩:=hΓ.const i x p hg hv
  exact top_name hΓ hB hk hd hm hs (hp.ok (.refl hs.stays) (hr.mono hs.base))
theorem se_bin {l r:Expr} {op:Operator} {pos:Pos} {f g:List Slot→Res PV} {k:PV→PV→Res PV} (hl:SE prog w Γ B l f) (hr:SE prog w Γ B r g)
  (ho:∀ H ρ s x y a b,St Γ B H ρ s→Rep H x a→Rep H y b→SO prog w B (binaryOp op a b) H s (k x y)) :
  SE prog w Γ B (.BinOp l op r pos) (fun ρ=>(f ρ).bind fun x=>(g ρ).bind fun y=>k x y):=by
 intro H ρ s Q E hs hp
 refine wpAny_BinOp (hl H ρ s _ _ hs (Post.bind hp fun x a s₁ H₁ _ e₁ ra hp₁=>?_))
 refine hr H₁ ρ s₁ _ _ (hs.ext e₁) (Post.bind hp₁ fun y b s₂ H₂ _ e₂ rb hp₂=>?_)
 exact ho H₂ ρ s₂ x y a b ((hs.ext e₁).ext e₂) (ra.mono e₂.grow) rb _ _ hp₂
theorem se_cmp {l r:Expr} {op:CmpOp} {pos:Pos} {f g:List Slot→Res PV} {k:PV→PV→Res PV} (hl:SE prog w Γ B l f) (hr:SE prog w Γ B r g) (hm:behindInMarks op r=false)
  (ho:∀ H ρ s x y a b,St Γ B H ρ s→Rep H x a→Rep H y b→SO prog w B (compareOp op a b) H s (k x y)) :
  SE prog w Γ B (.Compare l [op] [r] pos) (fun ρ=>(f ρ).bind fun x=>(g ρ).bind fun y=>k x y):=by
 intro H ρ s Q E hs hp
 refine wpAny_Compare1 (hl H ρ s _ _ hs (Post.bind hp fun x a s₁ H₁ _ e₁ ra hp₁=>?_)) hm
 refine hr H₁ ρ s₁ _ _ (hs.ext e₁) (Post.bind hp₁ fun y b s₂ H₂ _ e₂ rb hp₂=>?_)
 exact ho H₂ ρ s₂ x y a b ((hs.ext e₁).ext e₂) (ra.mono e₂.grow) rb _ _ hp₂
end
end Mine
namespace Mine
open PySem PyProof.Rows
section
variable {prog:Program} {w:World} {Γ:Ct} {B:Bl}
theorem tru {A:Around} {H:Heap} {p:PV} {v:Value} {b:Bool} {s:Shared} {Q:Bool→Shared→Prop} {E:Value→Shared→Prop} (r:Rep H p v) (hb:truP p=.ok b) (h:Q b s) :
  wpAny (model prog w) A (truthy v) Q E s:=by
 cases p <;> simp only [truP] at hb <;> first | (cases hb; done) | skip
 ·rw [Rep] at r; subst r; cases hb; exact truthy_none h
 ·rw [Rep] at r; subst r; cases hb; exact wpAny_truthy_bool h
 ·rw [Rep] at r; obtain ⟨t,rfl⟩:=r; cases hb; exact PySem.P.truthy_int h
theorem tru_post {H:Heap} {l:List Env} {p:PV} {v:Value} {s:Shared} {A:Around} {Q:Bool→Shared→Prop} {E:Value→Shared→Prop} (hs:H.StaysIn s.heap) (r:Rep H p v)
  (hp:Post (fun _ (a b:Bool)=>a=b) l H s (truP p) Q E):wpAny (model prog w) A (truthy v) Q E s:=by
 cases hb:truP p with
 | ok b=>rw [hb] at hp; exact tru r hb (hp.ok (.refl hs) rfl)
 | exc=>cases p <;> cases hb
 | stuck=>rw [hb] at hp; exact hp.elim
theorem sb_plain {e:Expr} {f:List Slot→Res PV} (h:SE prog w Γ B e f)
  (he:∀ whole,isTrue e B.env whole=(do let v ← whole; standAt e.pos; holding [v] (truthy v))):SB prog w Γ B e (fun ρ=>(f ρ).bind truP):=by
 intro H ρ s Q E hs hp
 refine isTrue_plain (h H ρ s _ _ hs (Post.bind hp fun p v s₁ H₁ _ e₁ r hp₁=>?_)) (he _)
 exact tru_post (hs.ext e₁).stays r hp₁
theorem bind_assoc' {α β γ:Type} (r:Res α) (f:α→Res β) (g:β→Res γ):(r.bind f).bind g=r.bind fun x=>(f x).bind g:=by cases r <;> rfl
theorem se_not {x:Expr} {pos:Pos} {f:List Slot→Res PV} (h:SE prog w Γ B x f) :
  SE prog w Γ B (.UnaryOp .Not x pos) (fun ρ=>(f ρ).bind fun v=>(truP v).bind fun b=>.ok (.bool (!b))):=by
 intro H ρ s Q E hs hp
 refine UnaryOp_ (h H ρ s _ _ hs (Post.bind hp fun p v s₁ H₁ _ e₁ r hp₁=>?_))
 refine not_of (tru_post (hs.ext e₁).stays r (Post.bind hp₁ fun b c s₂ H₂ _ e₂ hc hp₂=>?_))
 subst hc; exact hp₂.ok (.refl ((hs.ext e₁).ext e₂).stays) (by rw [Rep])
theorem sb_not {x:Expr} {pos:Pos} {f:List Slot→Res Bool} (h:SB prog w Γ B x f) :
  SB prog w Γ B (.UnaryOp .Not x pos) (fun ρ=>(f ρ).bind fun b=>.ok (!b)):=by
 intro H ρ s Q E hs hp
 refine isTrue_not (h H ρ s _ _ hs (Post.bind hp fun b c s₁ H₁ _ e₁ hc hp₁=>?_))
 subst hc; exact hp₁.ok (.refl (hs.ext e₁).stays) rfl
theorem se_ite {t b o:Expr} {pos:Pos} {c:List Slot→Res Bool} {f g:List Slot→Res PV} (ht:SB prog w Γ B t c) (hb:SE prog w Γ B b f) (ho:SE prog w Γ B o g) :
  SE prog w Γ B (.IfExp t b o pos) (fun ρ=>(c ρ).bind fun x=>if x then f ρ else g ρ):=by
 intro H ρ s Q E hs hp
 refine IfExp_ (ht H ρ s _ _ hs (Post.bind hp fun x y s₁ H₁ _ e₁ hc hp₁=>?_))
 subst hc
 cases x with
 | true=>exact hb H₁ ρ s₁ _ _ (hs.ext e₁) hp₁
 | false=>exact ho H₁ ρ s₁ _ _ (hs.ext e₁) hp₁
theorem sb_ite {t b o:Expr} {pos:Pos} {c f g:List Slot→Res Bool} (ht:SB prog w Γ B t c) (hb:SB prog w Γ B b f) (ho:SB prog w Γ B o g) :
  SB prog w Γ B (.IfExp t b o pos) (fun ρ=>(c ρ).bind fun x=>if x then f ρ else g ρ):=by
 intro H ρ s Q E hs hp
 refine isTrue_IfExp (ht H ρ s _ _ hs (Post.bind hp fun x y s₁ H₁ _ e₁ hc hp₁=>?_))
 subst hc
 cases x with
 | true=>exact hb H₁ ρ s₁ _ _ (hs.ext e₁) hp₁
 | false=>exact ho H₁ ρ s₁ _ _ (hs.ext e₁) hp₁
theorem se_and {a b:Expr} {r:List Expr} {pos:Pos} {f g:List Slot→Res PV} (ha:SE prog w Γ B a f) (hr:SE prog w Γ B (.BoolOp .And (b::r) pos) g) :
  SE prog w Γ B (.BoolOp .And (a::b::r) pos) (fun ρ=>(f ρ).bind fun x=>(truP x).bind fun t=>if t then g ρ else .ok x):=by
 intro H ρ s Q E hs hp
 refine BoolOp_and (ha H ρ s _ _ hs (Post.bind hp fun p v s₁ H₁ _ e₁ rp hp₁=>?_))
 refine tru_post (hs.ext e₁).stays rp (Post.bind hp₁ fun t c s₂ H₂ _ e₂ hc hp₂=>?_)
 subst hc
 cases t with
 | true=>exact hr H₂ ρ s₂ _ _ ((hs.ext e₁).ext e₂) hp₂
 | false=>exact hp₂.ok (.refl ((hs.ext e₁).ext e₂).stays) (rp.mono e₂.grow)
theorem se_or {a b:Expr} {r:List Expr} {pos:Pos} {f g:List Slot→Res PV} (ha:SE prog w Γ B a f) (hr:SE prog w Γ B (.BoolOp .Or (b::r) pos) g) :
  SE prog w Γ B (.BoolOp .Or (a::b::r) pos) (fun ρ=>(f ρ).bind fun x=>(truP x).bind fun t=>if t then .ok x else g ρ):=by
 intro H ρ s Q E hs hp
 refine BoolOp_or (ha H ρ s _ _ hs (Post.bind hp fun p v s₁ H₁ _ e₁ rp hp₁=>?_))
 refine tru_post (hs.ext e₁).stays rp (Post.bind hp₁ fun t c s₂ H₂ _ e₂ hc hp₂=>?_)
 subst hc
 cases t with
 | true=>exact hp₂.ok (.refl ((hs.ext e₁).ext e₂).stays) (rp.mono e₂.grow)
 | false=>exact hr H₂ ρ s₂ _ _ ((hs.ext e₁).ext e₂) hp₂
theorem sb_and_nil {pos:Pos}:SB prog w Γ B (.BoolOp .And [] pos) (fun _=>.ok true):=by
 intro H ρ s Q E hs hp
 exact isTrue_and_nil (hp.ok (.refl hs.stays) rfl)
theorem sb_or_nil {pos:Pos}:SB prog w Γ B (.BoolOp .Or [] pos) (fun _=>.ok false):=by
 intro H ρ s Q E hs hp
 exact isTrue_or_nil (hp.ok (.refl hs.stays) rfl)
theorem sb_and {a:Expr} {r:List Expr} {pos:Pos} {f g:List Slot→Res Bool} (ha:SB prog w Γ B a f) (hr:SB prog w Γ B (.BoolOp .And r pos) g) :
  SB prog w Γ B (.BoolOp .And (a::r) pos) (fun ρ=>(f ρ).bind fun t=>if t then g ρ else .ok false):=by
 intro H ρ s Q E hs hp
 refine isTrue_and (ha H ρ s _ _ hs (Post.bind hp fun t c s₁ H₁ _ e₁ hc hp₁=>?_))
 subst hc
 cases t with
 | true=>exact hr H₁ ρ s₁ _ _ (hs.ext e₁) hp₁
 | false=>exact hp₁.ok (.refl (hs.ext e₁).stays) rfl
theorem sb_or {a:Expr} {r:List Expr} {pos:Pos} {f g:List Slot→Res Bool} (ha:SB prog w Γ B a f) (hr:SB prog w Γ B (.BoolOp .Or r pos) g) :
  SB prog w Γ B (.BoolOp .Or (a::r) pos) (fun ρ=>(f ρ).bind fun t=>if t then .ok true else g ρ):=by
 intro H ρ s Q E hs hp
 refine isTrue_or (ha H ρ s _ _ hs (Post.bind hp fun t c s₁ H₁ _ e₁ hc hp₁=>?_))
 subst hc
 cases t with
 | true=>exact hp₁.ok (.refl (hs.ext e₁).stays) rfl
 | false=>exact hr H₁ ρ s₁ _ _ (hs.ext e₁) hp₁
noncomputable def cmpV (o:COp) (x y:PV):Res PV:=(cmpP o x y).bind fun r=>.ok (.bool r)
noncomputable def CmpOk (prog:Program) (w:World) (Γ:Ct) (B:Bl) (op:CmpOp) (o:COp):Prop :=
 ∀ H ρ s x y a b,St Γ B H ρ s→Rep H x a→Rep H y b→SO prog w B (compareOp op a b) H s (cmpV o x y)
theorem rep_bool {H:Heap} {b:Bool} {v:Value} (h:Rep H (.bool b) v):v=.bool b:=by rw [Rep] at h; exact h
theorem sb_cmp {l r:Expr} {op:CmpOp} {o:COp} {pos:Pos} {f g:List Slot→Res PV} (hl:SE prog w Γ B l f) (hr:SE prog w Γ B r g) (hm:behindInMarks op r=false) (ho:CmpOk prog w Γ B op o) :
  SB prog w Γ B (.Compare l [op] [r] pos) (fun ρ=>(f ρ).bind fun x=>(g ρ).bind fun y=>cmpP o x y):=by
 intro H ρ s Q E hs hp
 refine wpAny_isTrue_Compare1 (hl H ρ s _ _ hs (Post.bind hp fun x a s₁ H₁ _ e₁ ra hp₁=>?_)) hm
 refine hr H₁ ρ s₁ _ _ (hs.ext e₁) (Post.bind hp₁ fun y b s₂ H₂ _ e₂ rb hp₂=>?_)
 refine ho H₂ ρ s₂ x y a b ((hs.ext e₁).ext e₂) (ra.mono e₂.grow) rb _ _ ?_
 unfold cmpV
 cases hc:cmpP o x y with
 | stuck=>rw [hc] at hp₂; exact hp₂.elim
 | exc=>rw [hc] at hp₂; exact hp₂
 | ok b =>
  rw [hc] at hp₂
  intro v s' H' e' r'
  rw [rep_bool r']
  exact wpAny_truthy_bool (hp₂.ok e' rfl)
theorem se_cmp2 {l r q:Expr} {op op':CmpOp} {o o':COp} {pos:Pos} {f g h:List Slot→Res PV} (hl:SE prog w Γ B l f) (hr:SE prog w Γ B r g) (hq:SE prog w Γ B q h) (hm:behindInMarks op' q=false)
  (ho:CmpOk prog w Γ B op o) (ho':CmpOk prog w Γ B op' o') :
  SE prog w Γ B (.Compare l [op,op'] [r,q] pos) (fun ρ=>(f ρ).bind fun x=>(g ρ).bind fun y=>(cmpP o x y).bind fun t =>
   if t then (h ρ).bind fun z=>(cmpP o' y z).bind fun u=>.ok (.bool u) else .ok (.bool false)):=by
 intro H ρ s Q E hs hp
 refine Compare_chain (hl H ρ s _ _ hs (Post.bind hp fun x a s₁ H₁ _ e₁ ra hp₁=>?_)) hm
 refine chain_link (hr H₁ ρ s₁ _ _ (hs.ext e₁) (Post.bind hp₁ fun y b s₂ H₂ _ e₂ rb hp₂=>?_))
 refine ho H₂ ρ s₂ x y a b ((hs.ext e₁).ext e₂) (ra.mono e₂.grow) rb _ _ ?_
 unfold cmpV
 cases hc:cmpP o x y with
 | stuck=>rw [hc] at hp₂; exact hp₂.elim
 | exc=>rw [hc] at hp₂; exact hp₂
 | ok t =>
  rw [hc] at hp₂
  intro v s₃ H₃ e₃ r'
  rw [rep_bool r']
  have hs₃:=((hs.ext e₁).ext e₂).ext e₃
  refine wpAny_truthy_bool ?_
  have hp₃:=Post.ext hp₂ e₃
  cases t with
  | false=>exact hp₃.ok (.refl hs₃.stays) (by rw [Rep])
  | true =>
   refine chain_last (hq H₃ ρ s₃ _ _ hs₃ (Post.bind hp₃ fun z c s₄ H₄ _ e₄ rc hp₄=>?_))
   exact ho' H₄ ρ s₄ y z b c (hs₃.ext e₄) ((rb.mono e₃.grow).mono e₄.grow) rc _ _ hp₄
theorem test_last' {M:Model} {A:Around} {E:Value→Shared→Prop} {s:Shared} {pos:Pos} {a:Value} {op:CmpOp} {r:Sem Value} {Q:Bool→Shared→Prop}
  (h:wpAny M A r (fun b s₁=>wpAny M A (compareOp op a b) (fun c s₂=>wpAny M A (truthy c) Q E s₂) E s₁) E s):wpAny M A (testChain pos a [op] [r]) Q E s:=by
 show wpAny M A (do
  let rv ← holding [a] r
  standAt pos
  let c ← operate [a,rv] (compareOp op a rv)
  holding [c] (truthy c)) Q E s
 exact wpAny_bind (wpAny_holding (wpAny_mono h (fun b s₁ h₁=>wpAny_bind (wpAny_standAt (wpAny_bind (wpAny_operate' (wpAny_mono h₁ (fun _ _ h₂=>wpAny_holding h₂) fun _ _ x=>x))))) fun _ _ x=>x))
theorem sb_cmp2 {l r q:Expr} {op op':CmpOp} {o o':COp} {pos:Pos} {f g h:List Slot→Res PV} (hl:SE prog w Γ B l f) (hr:SE prog w Γ B r g) (hq:SE prog w Γ B q h) (hm:behindInMarks op' q=false)
  (ho:CmpOk prog w Γ B op o) (ho':CmpOk prog w Γ B op' o') :
  SB prog w Γ B (.Compare l [op,op'] [r,q] pos) (fun ρ=>(f ρ).bind fun x=>(g ρ).bind fun y=>(cmpP o x y).bind fun t =>
   if t then (h ρ).bind fun z=>cmpP o' y z else .ok false):=by
 intro H ρ s Q E hs hp
 refine isTrue_chain (hl H ρ s _ _ hs (Post.bind hp fun x a s₁ H₁ _ e₁ ra hp₁=>?_)) hm
 refine test_link (hr H₁ ρ s₁ _ _ (hs.ext e₁) (Post.bind hp₁ fun y b s₂ H₂ _ e₂ rb hp₂=>?_))
 refine ho H₂ ρ s₂ x y a b ((hs.ext e₁).ext e₂) (ra.mono e₂.grow) rb _ _ ?_
 unfold cmpV
 cases hc:cmpP o x y with
 | stuck=>rw [hc] at hp₂; exact hp₂.elim
 | exc=>rw [hc] at hp₂; exact hp₂
 | ok t =>
  rw [hc] at hp₂
  intro v s₃ H₃ e₃ r'
  rw [rep_bool r']
  have hs₃:=((hs.ext e₁).ext e₂).ext e₃
  refine wpAny_truthy_bool ?_
  have hp₃:=Post.ext hp₂ e₃
  cases t with
  | false=>exact hp₃.ok (.refl hs₃.stays) rfl
  | true =>
   refine test_last' (hq H₃ ρ s₃ _ _ hs₃ (Post.bind hp₃ fun z c s₄ H₄ _ e₄ rc hp₄=>?_))
   refine ho' H₄ ρ s₄ y z b c (hs₃.ext e₄) ((rb.mono e₃.grow).mono e₄.grow) rc _ _ ?_
   unfold cmpV
   cases hd:cmpP o' y z with
   | stuck=>rw [hd] at hp₄; exact hp₄.elim
   | exc=>rw [hd] at hp₄; exact hp₄
   | ok u =>
    rw [hd] at hp₄
    intro v s' H' e' r''
    rw [rep_bool r'']
    exact wpAny_truthy_bool (hp₄.ok e' rfl)
noncomputable def SEs (prog:Program) (w:World) (Γ:Ct) (B:Bl) (es:List Expr) (f:List Slot→Res (List PV)):Prop :=
 ∀ (pos:Pos) H ρ s (Q:List Value→Shared→Prop) (E:Value→Shared→Prop),St Γ B H ρ s→Post RepL (B.fenv::B.outer) H s (f ρ) Q E →
  wpAny (model prog w) B.A (spliced (backTo pos (starEach es B.env))) Q E s
theorem ses_nil:SEs prog w Γ B [] (fun _=>.ok []):=by
 intro pos H ρ s Q E hs hp
 exact Calls.spliced_nil (hp.ok (.refl hs.stays) (by rw [RepL]))
theorem starEach_cons {e:Expr} {r:List Expr} {env:Env} (h:notStar e=true):starEach (e::r) env=(false,eval e env)::starEach r env:=by
 cases e <;> first | rfl | cases h
theorem ses_cons {e:Expr} {r:List Expr} {f:List Slot→Res PV} {g:List Slot→Res (List PV)} (he:SE prog w Γ B e f) (hr:SEs prog w Γ B r g) (hn:notStar e=true) :
  SEs prog w Γ B (e::r) (fun ρ=>(f ρ).bind fun v=>(g ρ).bind fun vs=>.ok (v::vs)):=by
 intro pos H ρ s Q E hs hp
 rw [starEach_cons hn]
 show wpAny _ _ (spliced ((false,eval e B.env)::backTo pos (starEach r B.env))) _ _ _
 refine Calls.spliced_cons (he H ρ s _ _ hs (Post.bind hp fun p v s₁ H₁ _ e₁ rp hp₁=>?_))
 refine hr pos H₁ ρ s₁ _ _ (hs.ext e₁) (Post.bind hp₁ fun ps vs s₂ H₂ _ e₂ rps hp₂=>?_)
 exact hp₂.ok (.refl ((hs.ext e₁).ext e₂).stays) (by rw [RepL]; exact ⟨v,vs,rfl,rp.mono e₂.grow,rps⟩)
theorem lim_line {n:Nat} (h:n≤lim):n≤sizeLine:=Nat.le_trans h (by decide)
theorem tup_new {ws:List Value} {l:List PV} {H:Heap} {s:Shared} {A:Around} {Q E:Value→Shared→Prop} (hs:H.StaysIn s.heap) (r:RepL H l ws) (hz:l.length≤lim) {fr:List Env}
  (hp:Post Rep fr H s (.ok (.tuple l)) Q E):wpAny (model prog w) A (newTuple ws) Q E s:=by
 obtain ⟨H',e,hg⟩ := Ext.alloc hs ({ cls := .type "tuple",data := .seq ws.toArray } : Obj) rfl
 refine wpAny_newObj_type (hp.ok (e _ ⟨rfl,rfl,rfl⟩) ?_) (by show ws.toArray.size≤sizeLine; rw [List.size_toArray,r.length]; exact lim_line hz)
 rw [Rep]
 exact ⟨_,ws,rfl,⟨_,hg,rfl,_,rfl⟩,hz,r.mono (e { s with heap:=s.heap.push _ } ⟨rfl,rfl,rfl⟩).grow⟩
theorem lst_new {ws:List Value} {l:List PV} {H:Heap} {s:Shared} {A:Around} {Q E:Value→Shared→Prop} (hs:H.StaysIn s.heap) (r:RepL H l ws) (hz:l.length≤lim) {fr:List Env}
  (hp:Post Rep fr H s (.ok (.list l)) Q E):wpAny (model prog w) A (newList ws) Q E s:=by
 obtain ⟨H',e,hg⟩ := Ext.alloc hs ({ cls := .type "list",data := .seq ws.toArray } : Obj) rfl
 refine wpAny_newObj_type (hp.ok (e _ ⟨rfl,rfl,rfl⟩) ?_) (by show ws.toArray.size≤sizeLine; rw [List.size_toArray,r.length]; exact lim_line hz)
 rw [Rep]
 exact ⟨_,ws,rfl,⟨_,hg,rfl,_,rfl⟩,hz,r.mono (e { s with heap:=s.heap.push _ } ⟨rfl,rfl,rfl⟩).grow⟩
theorem se_tup {es:List Expr} {k:Nat} {pos:Pos} {f:List Slot→Res (List PV)} (h:SEs prog w Γ B es f) :
  SE prog w Γ B (.Tuple es k pos) (fun ρ=>(f ρ).bind fun vs=>if vs.length≤lim then .ok (.tuple vs) else .stuck):=by
 intro H ρ s Q E hs hp
 refine Tuple_ (h pos H ρ s _ _ hs (Post.bind hp fun ps vs s₁ H₁ _ e₁ rps hp₁=>?_))
 by_cases hz:ps.length≤lim
 ·rw [if_pos hz] at hp₁; exact tup_new (hs.ext e₁).stays rps hz hp₁
 ·rw [if_neg hz] at hp₁; exact hp₁.elim
theorem se_lst {es:List Expr} {pos:Pos} {f:List Slot→Res (List PV)} (h:SEs prog w Γ B es f) :
  SE prog w Γ B (.List es pos) (fun ρ=>(f ρ).bind fun vs=>if vs.length≤lim then .ok (.list vs) else .stuck):=by
 intro H ρ s Q E hs hp
 refine List_ (h pos H ρ s _ _ hs (Post.bind hp fun ps vs s₁ H₁ _ e₁ rps hp₁=>?_))
 by_cases hz:ps.length≤lim
 ·rw [if_pos hz] at hp₁; exact lst_new (hs.ext e₁).stays rps hz hp₁
 ·rw [if_neg hz] at hp₁; exact hp₁.elim
end
end Mine
namespace Mine
open PySem PyProof.Rows
theorem noteFrame_eq {e:Value} {env env':Env} (h:env.frame=env'.frame):noteFrame e env=noteFrame e env':=by
 unfold noteFrame PySem.frameOf
 rw [h]
section
variable {M:Model} {A:Around} {E:Value→Shared→Prop} {s:Shared} {H:Heap} {env:Env} {outer:List Env} {L e:Addr}
theorem leave_flown (hfr:A.frames=some (env::outer)) (hf:env.frame=some L) (x:Flown H (env::outer) e s.heap) {Q:Unit→Shared→Prop}
  (hQ:∀ h' a0,Heap.FlyingW H outer e VE a0 h'→s.heap.UpToSlots h'→Q () { s with heap:=h' }):wpAny M A (leaving env (.ref e)) Q E s:=by
 rcases x with ⟨a0,x⟩ | ⟨a0,L',env',r,he,hL,x⟩ | x
 ·exact wpAny_leaves_onW hfr hf x fun h' y u=>hQ h' a0 y u
 ·obtain ⟨rfl,rfl⟩:=List.cons.inj he
  rw [hf] at hL; obtain rfl:=Option.some.inj hL
  unfold leaving
  refine wpAny_bind (wpAny_noteFrame_againW hf x.2.2.2 ?_)
  refine wpAny_landsW x fun h' hfl u=>?_
  obtain ⟨k1,k2,⟨_,_,k3⟩,k4⟩:=hfl
  exact hQ h' a0 ⟨k1,k2,k3,k4⟩ u
 ·obtain ⟨k1,k2,k3,oe,vs,a0,ho,hc,hd,h1,h0⟩:=x
  refine wpAny_leaving_firstW hfr k3 hf ho k1 k2 hd h1 h0 fun h' hL=>?_
  obtain ⟨q1,⟨_,_,q2⟩,q3,q4⟩:=hL
  exact hQ h' a0 ⟨q1,k2,q2,by rw [← hc]; exact q3⟩ q4
theorem note_flown (hfr:A.frames=some (env::outer)) (hf:env.frame=some L) (x:Flown H (env::outer) e s.heap) {Q:Unit→Shared→Prop}
  (hQ:∀ h' a0,Heap.HeldW H (env::outer) e VE a0 L h'→s.heap.UpToSlots h'→Q () { s with heap:=h' }):wpAny M A (noteFrame (.ref e) env) Q E s:=by
 rcases x with ⟨a0,x⟩ | ⟨a0,L',env',r,he,hL,x⟩ | x
 ·exact wpAny_looks_onW hfr hf x fun h' y u=>hQ h' a0 y u
 ·obtain ⟨rfl,rfl⟩:=List.cons.inj he
  rw [hf] at hL; obtain rfl:=Option.some.inj hL
  exact wpAny_noteFrame_againW hf x.2.2.2 (hQ s.heap a0 x (.refl _))
 ·obtain ⟨k1,k2,k3,oe,vs,a0,ho,hc,hd,h1,h0⟩:=x
  unfold noteFrame
  simp only [hf]
  refine wpAny_bind (wpAny_field ho hd h1 ?_)
  rw [if_neg (by decide)]
  refine wpAny_entryW hfr k3 hf ho k1 k2 hd (Array.getElem?_eq_some_iff.mp h1).1 h0 fun h' hN=>?_
  obtain ⟨q1,q2,q3,q4⟩:=hN
  exact hQ h' a0 ⟨q1,k2,q2,by rw [← hc]; exact q3⟩ q4
theorem setFlight_held {a0:Value} {l:List Env} (x:Heap.HeldW H l e VE a0 L s.heap) {Q:Unit→Shared→Prop}
  (hQ:∀ h',Heap.HeldW H l e VE a0 L h'→s.heap.UpToSlots h'→Q () { s with heap:=h' }):wpAny M A (setFlight (.ref e) (some L)) Q E s:=by
 obtain ⟨hkb,hen,hl,oe,vs,T,oT,ts,he,hcls,hd,h1,hnT,hTe,hT,hdT,h3⟩:=x
 have hsz3:3<ts.size:=(Array.getElem?_eq_some_iff.mp h3).1
 have other:∀ b,b≠T→(s.heap.update T (Obj.mapFields (·.setIfInBounds 3 ((some L:Option Addr).elim Value.none fun f=>rawInt f)))).get? b=s.heap.get? b :=
  fun b hb=>Heap.get?_update_other _ _ (Ne.symm hb)
 have noRecord:∀ b o,s.heap.get? b=some o→(∀ vs,o.data≠.fields vs)→b≠T:=fun b o hb hnf q=>by
  rw [q,hT] at hb; injection hb with hb; subst hb; exact hnf ts hdT
 unfold setFlight
 refine wpAny_bind (wpAny_field he hd h1 ?_)
 rw [if_pos (show (Value.ref T != Value.none)=true from by simp)]
 refine wpAny_setField hT hdT hsz3 (hQ _ ⟨fun b o hbo=>(other b fun q=>by rw [q,hnT] at hbo; cases hbo).trans (hkb b o hbo),hen,
  hl.of_keeps fun b o hb hnf=>⟨o,(other b (noRecord b o hb hnf)).trans hb,rfl⟩,?_⟩ fun b o hb hnf=>⟨o.slots,(other b (noRecord b o hb hnf)).trans hb⟩)
 exact ⟨oe,vs,T,_,_,(other e (Ne.symm hTe)).trans he,hcls,hd,h1,hnT,hTe,Heap.get?_update_self _ hT (Obj.isFreed_of_fields (Obj.data_mapFields hdT _)),Obj.data_mapFields hdT _,by simp [hsz3]⟩
theorem held_flown {a0:Value} (hf:env.frame=some L) (x:Heap.HeldW H (env::outer) e VE a0 L s.heap):Flown H (env::outer) e s.heap:=.inr (.inl ⟨a0,L,env,outer,rfl,hf,x⟩)
theorem came_flown {be:Env} (hb:be.frame=env.frame) (hfr:A.frames=some (env::outer)) (hf:env.frame=some L) (x:Flown H (env::outer) e s.heap)
  (hE:∀ h',Flown H (env::outer) e h'→s.heap.UpToSlots h'→E (.ref e) { s with heap:=h' }):notedBy M A be (cameBackBy M A be E) (.ref e) s:=by
 unfold notedBy
 rw [noteFrame_eq hb]
 refine note_flown hfr hf x fun h' a0 y u=>?_
 unfold cameBackBy
 obtain ⟨oe,vs,T,oT,ts,he,hcls,hd,h1,r⟩:=id y.2.2.2
 refine wpAny_bind (wpAny_field he hd h1 ?_)
 rw [if_neg (show ¬ ((Value.ref T == Value.none)=true) from by simp),hb,hf]
 exact setFlight_held y fun h'' z u'=>hE h'' (held_flown (s:={ s with heap:=h'' }) hf z) (u.trans u')
end
end Mine
namespace Mine
open PySem PyProof.Rows
theorem ExtS.ups' {N₀:Nat} {H H':Heap} {s s' s'':Shared} (x:ExtS N₀ H s H' s') (u:s'.heap.UpToSlots s''.heap) (st:H'.StaysIn s''.heap) (q:s''.os=s'.os∧s''.gens=s'.gens:=by exact ⟨rfl,rfl⟩):ExtS N₀ H s H' s'' :=
 ⟨x.grow,x.old,st,fun b o hb e n=>let ⟨_,e₁⟩:=x.ups b o hb e n; let ⟨sl,e₂⟩:=u b _ e₁ n; ⟨sl,e₂⟩,q.1.trans x.same.1,q.2.trans x.same.2⟩
theorem Flown.stays {H:Heap} {l:List Env} {e:Addr} {h:Heap} (x:Flown H l e h):H.StaysIn h:=by
 rcases x with ⟨_,x⟩ | ⟨_,_,_,_,_,_,x⟩ | x
 ·exact x.1
 ·exact x.1
 ·exact x.1
noncomputable def FlRep (H:Heap):Fl→Flow→Prop
 | .next,f=>f=.next
 | .brk,f=>f=.brk
 | .ret p,f=>∃ v,f=.ret v∧Rep H p v
noncomputable def PostS (Γ:Ct) (B:Bl) (H:Heap) (s:Shared) (r:Res (Fl × List Slot)) (Q:Flow→Shared→Prop) (E:Value→Shared→Prop):Prop :=
 match r with
 | .ok (fl,ρ')=>∀ f s' H',ExtS B.N₀ H s H' s'→St Γ B H' ρ' s'→FlRep H' fl f→Q f s'
 | .exc=>∀ e s' H',ExtS B.N₀ H s H' s'→Flown H' (B.fenv::B.outer) e s'.heap→E (.ref e) s'
 | .stuck=>False
theorem PostS.ext {Γ:Ct} {B:Bl} {H H':Heap} {s s':Shared} {r:Res (Fl × List Slot)} {Q:Flow→Shared→Prop} {E:Value→Shared→Prop} (x:PostS Γ B H s r Q E) (e:ExtS B.N₀ H s H' s'):PostS Γ B H' s' r Q E:=by
 match r,x with
 | .ok (fl,ρ'),x=>exact fun f s' H'' e'=>x f s' H'' (e.trans e')
 | .exc,x=>exact fun f s' H'' e'=>x f s' H'' (e.trans e')
noncomputable def SS (prog:Program) (w:World) (Γ:Ct) (B:Bl) (st:Stmt) (f:List Slot→Res (Fl × List Slot)):Prop :=
 ∀ H ρ s (Q:Flow→Shared→Prop) (E:Value→Shared→Prop),St Γ B H ρ s→PostS Γ B H s (f ρ) Q E→wpAny (model prog w) B.A (exec st B.env) Q E s
noncomputable def SSs (prog:Program) (w:World) (Γ:Ct) (B:Bl) (sts:List Stmt) (f:List Slot→Res (Fl × List Slot)):Prop :=
 ∀ H ρ s (Q:Flow→Shared→Prop) (E:Value→Shared→Prop),St Γ B H ρ s→PostS Γ B H s (f ρ) Q E→wpAny (model prog w) B.A (execs sts B.env) Q E s
theorem getS_put (ρ:List Slot) (i j:Nat) (v:Slot):getS (putS ρ i v) j=if i=j∧i<ρ.length then v else getS ρ j:=by
 induction ρ generalizing i j with
 | nil=>simp [putS,getS]
 | cons x r ih =>
  cases i with
  | zero=>cases j <;> simp [putS,getS]
  | succ i=>cases j with
   | zero=>simp [putS,getS]
   | succ j=>simp [putS,getS,ih]
theorem getS_ge:∀ (ρ:List Slot) (i:Nat),ρ.length≤i→getS ρ i=.unset
 | [],_,_=>rfl
 | _::_,0,h=>by simp at h
 | _::r,i+1,h=>getS_ge r i (by simpa using h)
theorem getS_lt {ρ:List Slot} {i:Nat} {l:List PV} (h:getS ρ i=.own l):i<ρ.length:=by
 rcases Nat.lt_or_ge i ρ.length with q | q
 ·exact q
 ·rw [getS_ge ρ i q] at h; cases h
theorem nodup_at {α:Type} {l:List α} (h:l.Nodup) {i j:Nat} {x:α} (hi:l[i]?=some x) (hj:l[j]?=some x):i=j:=by
 obtain ⟨a,b⟩:=List.getElem?_eq_some_iff.mp hi
 obtain ⟨c,d⟩:=List.getElem?_eq_some_iff.mp hj
 have k:=List.pairwise_iff_getElem.mp h
 rcases Nat.lt_trichotomy i j with q | q | q
 ·exact absurd (b.trans d.symm) (k i j a c q)
 ·exact q
 ·exact absurd (d.trans b.symm) (k j i c a q)
theorem frames_mem {H H' h:Heap}:∀ {l:List Env},h.FunFrames H l→(∀ v∈l,∀ L,v.frame=some L→H.get? L=none→H'.get? L=none)→h.FunFrames H' l
 | [],_,_=>trivial
 | v::_,⟨hk,⟨L,o,hf,hn,ho,hd⟩,hr⟩,k=>⟨hk,⟨L,o,hf,k v (.head _) L hf hn,ho,hd⟩,frames_mem hr fun u hu=>k u (.tail _ hu)⟩
theorem PostS.bind {α β:Type} {R:Heap→α→β→Prop} {Γ:Ct} {B:Bl} {H:Heap} {s:Shared} {r:Res α} {k:α→Res (Fl × List Slot)}
  {Q:β→Shared→Prop} {Q':Flow→Shared→Prop} {E:Value→Shared→Prop} (x:PostS Γ B H s (r.bind k) Q' E)
  (hq:∀ p v s' H',r=.ok p→Ext H s H' s'→R H' p v→PostS Γ B H' s' (k p) Q' E→Q v s'):Post R (B.fenv::B.outer) H s r Q E:=by
 cases r with
 | ok p=>exact fun v s' H' e rr=>hq p v s' H' rfl e rr (PostS.ext x e.toS)
 | exc=>exact fun e s' H' ex fl=>x e s' H' ex.toS fl
 | stuck=>exact x
theorem frames_set {H h h':Heap} {L:Addr} {m:Str→Option Value} (hn:h'.Ns L m) (hs:∀ b,b≠L→h'.get? b=h.get? b):∀ {l:List Env},h.FunFrames H l→h'.FunFrames H l
 | [],_=>trivial
 | _::_,⟨hk,⟨L',o,hf,hnn,ho,hd⟩,hr⟩=>by
  refine ⟨hk,?_,frames_set hn hs hr⟩
  by_cases e:L'=L
  ·subst e
   obtain ⟨o',_,_,ho',hd',_⟩:=hn
   exact ⟨L',o',hf,hnn,ho',fun vs q=>by rw [hd'] at q; cases q⟩
  ·exact ⟨L',o,hf,hnn,(hs L' e).trans ho,hd⟩
section
variable {prog:Program} {w:World} {Γ:Ct} {B:Bl}
theorem store_var2 {d:Nat} (hB:B.Ok d) {A:Around} {H:Heap} {ρ:List Slot} {s:Shared} (hs:St Γ B H ρ s) {i:Nat} {x:Str} {p:PV} {v:Value} (hv:B.vs[i]?=some x) (hk:B.env.kindOf x=some .local)
  (hr:Rep H p v) {Q:Unit→Shared→Prop} {E:Value→Shared→Prop} (k:∀ s',St Γ B H (putS ρ i (.val p)) s'→ExtS B.N₀ H s H s'→Heap.SameBut B.env.locals s.heap s'.heap→Q () s') :
  wpAny (model prog w) A (storeName B.env x v) Q E s:=by
 obtain ⟨m,oa,hn,hl,hN,hsl,hdd⟩:=hs.loc
 refine wpAny_storeName_local hk hn (fun h' hn' hsb=>?_) (by rw [hB.kind]; rfl)
 have keep:∀ b o,s.heap.get? b=some o→b≠B.env.locals→h'.get? b=some o:=fun b o e hb=>(hsb.2 b hb).trans e
 have hst:H.StaysIn h':=fun b o e=>keep b o (hs.stays b o e) fun q=>by rw [q,hl] at e; cases e
 refine k _ ⟨hs.base,hst,frames_set hn' hsb.2 hs.frames,_,oa,hn',hl,hN,fun j y hy=>?_,fun a b l l' hab ha hb=>?_⟩ ⟨stays_refl _,fun _ _ _ _ _ e=>e,hst,fun b o hb e _=>⟨o.slots,keep b o e ?_⟩,rfl,rfl⟩ hsb
 ·rw [getS_put]
  by_cases hij:i=j∧i<ρ.length
  ·obtain ⟨rfl,_⟩:=hij
   rw [if_pos ⟨rfl,by assumption⟩]
   rw [hv] at hy; obtain rfl:=Option.some.inj hy
   exact ⟨v,by simp,hr⟩
  ·rw [if_neg hij]
   have hj:=hsl j y hy
   by_cases hij':i=j
   ·subst hij'
    have:getS ρ i=.unset:=getS_ge ρ i (by simpa using hij)
    rw [this]; trivial
   ·have hne:y≠x:=fun q=>by
     subst q
     exact hij' (nodup_at hB.nodup hv hy)
    revert hj
    cases getS ρ j with
    | unset=>exact fun h=>h
    | val q=>exact fun ⟨u,h1,h2⟩=>⟨u,by simp [hne,h1],h2⟩
    | own l =>
     intro ⟨hz,ws,h1,h2,h3,h4,h5⟩
     refine ⟨hz,ws,by simp [hne,h1],?_,h3,h4,h5⟩
     obtain ⟨o,n,ho,hc,hdn,hd⟩:=h2
     refine ⟨o,n,keep _ o ho fun q=>?_,hc,hdn,hd⟩
     obtain ⟨o',_,_,ho',hd',_⟩:=hn
     rw [q,ho'] at ho; obtain rfl:=Option.some.inj ho
     rw [hd] at hd'; cases hd'
 ·rw [getS_put] at ha hb
  split at ha
  ·cases ha
  ·split at hb
   ·cases hb
   ·exact hdd a b l l' hab ha hb
 ·exact fun q=>by rw [q] at hb; exact absurd hN (Nat.not_le.mpr hb)
theorem store_var {d:Nat} (hB:B.Ok d) {A:Around} {H:Heap} {ρ:List Slot} {s:Shared} (hs:St Γ B H ρ s) {i:Nat} {x:Str} {p:PV} {v:Value} (hv:B.vs[i]?=some x) (hk:B.env.kindOf x=some .local)
  (hr:Rep H p v) {Q:Unit→Shared→Prop} {E:Value→Shared→Prop} (k:∀ s',St Γ B H (putS ρ i (.val p)) s'→ExtS B.N₀ H s H s'→Q () s') :
  wpAny (model prog w) A (storeName B.env x v) Q E s:=store_var2 hB hs hv hk hr fun s' a b _=>k s' a b
theorem notComp_swaps {e:Expr} {t:Option Expr} {n:Nat} {env:Env} (h:notComp e=true):swapsWith e t n env=pure false:=by
 cases e <;> first | rfl | cases h
theorem ss_assign {d:Nat} (hB:B.Ok d) {x:Str} {xp pos:Pos} {e:Expr} {i:Nat} {f:List Slot→Res PV} (hv:B.vs[i]?=some x) (hk:B.env.kindOf x=some .local) (hn:notComp e=true)
  (he:SE prog w Γ B e f):SS prog w Γ B (.Assign [.Name x xp] e pos) (fun ρ=>(f ρ).bind fun v=>.ok (.next,putS ρ i (.val v))):=by
 intro H ρ s Q E hs hp
 refine wpAny_Assign_Name (he H ρ s _ _ hs (PostS.bind hp fun p v s₁ H₁ _ e₁ r hp₁=>?_)) (notComp_swaps hn)
 exact store_var hB (hs.ext e₁) hv hk r fun s' hs' ex=>hp₁ .next s' H₁ ex hs' rfl
theorem ss_ret {e:Expr} {pos:Pos} {f:List Slot→Res PV} (he:SE prog w Γ B e f):SS prog w Γ B (.Return (some e) pos) (fun ρ=>(f ρ).bind fun v=>.ok (.ret v,ρ)):=by
 intro H ρ s Q E hs hp
 refine wpAny_Return_some (he H ρ s _ _ hs (PostS.bind hp fun p v s₁ H₁ _ e₁ r hp₁=>?_))
 exact hp₁ _ s₁ H₁ (.refl (hs.ext e₁).stays) (hs.ext e₁) ⟨v,rfl,r⟩
theorem ss_brk {pos:Pos}:SS prog w Γ B (.Break pos) (fun ρ=>.ok (.brk,ρ)):=by
 intro H ρ s Q E hs hp
 exact fun _ _ _=>hp _ s H (.refl hs.stays) hs rfl
theorem ss_expr {e:Expr} {pos:Pos} {f:List Slot→Res PV} (hn:notComp e=true) (hi:interactive B.env=false) (he:SE prog w Γ B e f) :
  SS prog w Γ B (.Expr e pos) (fun ρ=>(f ρ).bind fun v=>if isNone v then .ok (.next,ρ) else .stuck):=by
 intro H ρ s Q E hs hp
 refine wpAny_Expr (he H ρ s _ _ hs (PostS.bind hp fun p v s₁ H₁ _ e₁ r hp₁=>?_)) hi (notComp_swaps hn)
 cases p <;> simp only [isNone,Bool.false_eq_true,if_false,if_true] at hp₁ <;> first | exact hp₁.elim | skip
 rw [Rep] at r; subst r
 exact hp₁ _ s₁ H₁ (.refl (hs.ext e₁).stays) (hs.ext e₁) rfl
theorem ss_if {t:Expr} {b o:List Stmt} {pos:Pos} {c:List Slot→Res Bool} {f g:List Slot→Res (Fl × List Slot)} (ht:SB prog w Γ B t c) (hb:SSs prog w Γ B b f) (ho:SSs prog w Γ B o g) :
  SS prog w Γ B (.If t b o pos) (fun ρ=>(c ρ).bind fun x=>if x then f ρ else g ρ):=by
 intro H ρ s Q E hs hp
 refine wpAny_If (ht H ρ s _ _ hs (PostS.bind hp fun x y s₁ H₁ _ e₁ hc hp₁=>?_))
 subst hc
 cases x with
 | true=>exact hb H₁ ρ s₁ _ _ (hs.ext e₁) hp₁
 | false=>exact ho H₁ ρ s₁ _ _ (hs.ext e₁) hp₁
theorem sss_nil:SSs prog w Γ B [] (fun ρ=>.ok (.next,ρ)):=by
 intro H ρ s Q E hs hp
 exact wpAny_execs_nil (hp _ s H (.refl hs.stays) hs rfl)
theorem sss_cons {st:Stmt} {r:List Stmt} {f g:List Slot→Res (Fl × List Slot)} (hf:SS prog w Γ B st f) (hg:SSs prog w Γ B r g) :
  SSs prog w Γ B (st::r) (fun ρ=>match f ρ with | .ok (.next,ρ')=>g ρ' | .ok (x,ρ')=>.ok (x,ρ') | .exc=>.exc | .stuck=>.stuck):=by
 intro H ρ s Q E hs hp
 refine wpAny_execs_cons (hf H ρ s _ _ hs ?_)
 cases hfr:f ρ with
 | stuck=>simp only [hfr] at hp; exact hp.elim
 | exc=>simp only [hfr] at hp; exact hp
 | ok q =>
  obtain ⟨fl,ρ'⟩:=q
  cases fl with
  | next =>
   simp only [hfr] at hp
   intro f' s' H' ex hs' hfl
   cases hfl
   exact hg H' ρ' s' _ _ hs' (PostS.ext hp ex)
  | brk =>
   simp only [hfr] at hp
   intro f' s' H' ex hs' hfl
   cases hfl
   exact hp _ s' H' ex hs' rfl
  | ret v =>
   simp only [hfr] at hp
   intro f' s' H' ex hs' hfl
   obtain ⟨u,rfl,hr⟩:=hfl
   exact hp _ s' H' ex hs' ⟨u,rfl,hr⟩
theorem st_frz {d:Nat} (hB:B.Ok d) (hfn:B.fenv.frame=some B.env.locals) {H:Heap} {ρ:List Slot} {s:Shared} (hs:St Γ B H ρ s) {i:Nat} {l:List PV} (hg:getS ρ i=.own l) (hi:B.vs[i]?.isSome) :
  ∃ H',St Γ B H' (putS ρ i (.val (.list l))) s∧ExtS B.N₀ H s H' s:=by
 obtain ⟨m,oa,hn,hl,hN,hsl,hdd⟩:=hs.loc
 obtain ⟨x,hx⟩:=Option.isSome_iff_exists.mp hi
 have h0:=hsl i x hx
 rw [hg] at h0
 obtain ⟨hz,ws,h1,⟨o,n,ho,hc,hdn,hd⟩,h3,h4,h5⟩:=h0
 obtain ⟨H',k1,k2,k3,k4⟩:=add_exists hs.stays ho
 have hle:=getS_lt hg
 refine ⟨H',⟨stays_trans hs.base k1,k2,?_,m,oa,hn,?_,hN,fun j y hy=>?_,fun a b l l' hab ha hb=>?_⟩,⟨k1,fun b o' hb e nf q=>?_,k2,fun b o' _ e _=>⟨o'.slots,e⟩,rfl,rfl⟩⟩
 ·have hne:B.env.locals≠oa i:=fun e=>by
   obtain ⟨o',_,_,ho',hd',_⟩:=hn
   rw [e,ho] at ho'; obtain rfl:=Option.some.inj ho'
   rw [hd] at hd'; cases hd'
  refine frames_mem hs.frames fun v hv L hL hLn=>?_
  rw [k4 L ?_]; exact hLn
  rcases List.mem_cons.mp hv with rfl | hv
  ·rw [hfn] at hL; obtain rfl:=Option.some.inj hL; exact hne
  ·exact fun q=>by rw [q] at hL; exact absurd h5 (Nat.not_le.mpr (hB.low v hv _ hL))
 ·by_cases e:B.env.locals=oa i
  ·obtain ⟨o',_,_,ho',hd',_⟩:=hn
   rw [e,ho] at ho'; obtain rfl:=Option.some.inj ho'
   rw [hd] at hd'; cases hd'
  ·rw [k4 _ e]; exact hl
 ·rw [getS_put]
  by_cases hij:i=j∧i<ρ.length
  ·obtain ⟨rfl,_⟩:=hij
   rw [if_pos ⟨rfl,hle⟩]
   rw [hx] at hy; obtain rfl:=Option.some.inj hy
   refine ⟨_,h1,?_⟩
   rw [Rep]
   exact ⟨_,ws,rfl,⟨o,k3,hc,n,hd⟩,hz,h3.mono k1⟩
  ·rw [if_neg hij]
   have hij':i≠j:=fun q=>hij ⟨q,hle⟩
   have hj:=hsl j y hy
   revert hj
   cases hgj:getS ρ j with
   | unset=>exact fun h=>h
   | val q=>exact fun ⟨u,h1,h2⟩=>⟨u,h1,h2.mono k1⟩
   | own l' =>
    intro ⟨hz',ws',h1',h2',h3',h4',h5'⟩
    refine ⟨hz',ws',h1',h2',h3'.mono k1,?_,h5'⟩
    rw [k4 _ (hdd j i l' l (Ne.symm hij') hgj hg (by rw [hy]; rfl) hi)]; exact h4'
 ·rw [getS_put] at ha hb
  split at ha
  ·cases ha
  ·split at hb
   ·cases hb
   ·exact hdd a b l l' hab ha hb
 ·rw [k4 b (fun z=>by rw [z] at hb; exact absurd h5 (Nat.not_le.mpr hb))]; exact q
end
end Mine
namespace Mine
open PySem PyProof.Rows
section
variable {prog:Program} {w:World} {Γ:Ct} {B:Bl}
theorem St.own_ne {H:Heap} {ρ:List Slot} {s:Shared} {m:Str→Option Value} {a:Addr} {ws:List Value} (hn:s.heap.Ns B.env.locals m) (h:OwnAt s.heap a ws):a≠B.env.locals:=fun q=>by
 obtain ⟨o,n,ho,_,_,hd⟩:=h
 obtain ⟨o',_,_,ho',hd',_⟩:=hn
 rw [q,ho'] at ho; obtain rfl:=Option.some.inj ho
 rw [hd] at hd'; cases hd'
theorem store_own {d:Nat} (hB:B.Ok d) {A:Around} {H:Heap} {ρ:List Slot} {s:Shared} (hs:St Γ B H ρ s) {i:Nat} {x:Str} {l:List PV} {ws:List Value} (hv:B.vs[i]?=some x) (hk:B.env.kindOf x=some .local)
  (hr:RepL H l ws) (hz:l.length≤lim) {Q:Unit→Shared→Prop} {E:Value→Shared→Prop} (k:∀ s',St Γ B H (putS ρ i (.own l)) s'→ExtS B.N₀ H s H s'→Q () s') :
  wpAny (model prog w) A (storeName B.env x (.ref s.heap.objs.size)) Q E { s with heap := s.heap.push { cls := .type "list",data := .seq ws.toArray } } := by
 have hs₁ : St Γ B H ρ { s with heap := s.heap.push { cls := .type "list",data := .seq ws.toArray } } := hs.ext (.push hs.stays _)
 obtain ⟨m₀,oa₀,hn₀,_⟩:=hs.loc
 obtain ⟨m,oa,hn,hl,hN,hsl,hdd⟩:=hs.loc
 have hN':B.N₀≤s.heap.objs.size:=Nat.le_of_lt (Nat.lt_of_le_of_lt hN hn.lt)
 have hn1 := hn.push ({ cls := .type "list",data := .seq ws.toArray } : Obj)
 have hfresh:H.get? s.heap.objs.size=none:=none_of_stays hs.stays (none_of_size (Nat.le_refl _))
 refine wpAny_storeName_local (s := { s with heap := s.heap.push { cls := .type "list",data := .seq ws.toArray } }) hk hn1 (fun h' hn' hsb => ?_) (by rw [hB.kind]; rfl)
 have keep:∀ b o,s.heap.get? b=some o→b≠B.env.locals→h'.get? b=some o:=fun b o e hb=>(hsb.2 b hb).trans (Heap.get?_push_of_some _ e)
 have hst:H.StaysIn h':=fun b o e=>keep b o (hs.stays b o e) fun q=>by rw [q,hl] at e; cases e
 have hnew:OwnAt h' s.heap.objs.size ws:=⟨_,_,(hsb.2 _ (Nat.ne_of_gt hn.lt)).trans (Heap.get?_push_size _ rfl),rfl,rfl,rfl⟩
 have hlt:∀ j y l',B.vs[j]?=some y→getS ρ j=.own l'→oa j<s.heap.objs.size:=fun j y l' hy hj=>by
  have:=hsl j y hy
  rw [hj] at this
  obtain ⟨_,_,_,⟨o,_,ho,_⟩,_⟩:=this
  exact Heap.lt_size ho
 refine k _ ⟨hs.base,hst,frames_set hn' hsb.2 (hs₁.frames),_,(fun j=>if j=i then s.heap.objs.size else oa j),hn',hl,hN,fun j y hy=>?_,fun a b l₁ l₂ hab ha hb hsa hsb'=>?_⟩ ⟨stays_refl _,fun _ _ _ _ _ e=>e,hst,fun b o hb e _=>⟨o.slots,keep b o e ?_⟩,rfl,rfl⟩
 ·rw [getS_put]
  by_cases hij:i=j∧i<ρ.length
  ·obtain ⟨rfl,hlen⟩:=hij
   rw [if_pos ⟨rfl,hlen⟩]
   rw [hv] at hy; obtain rfl:=Option.some.inj hy
   exact ⟨hz,ws,by simp,by simpa using hnew,hr,by simpa using hfresh,by simpa using hN'⟩
  ·rw [if_neg hij]
   have hj:=hsl j y hy
   by_cases hij':i=j
   ·subst hij'
    have:getS ρ i=.unset:=getS_ge ρ i (by simpa using hij)
    rw [this]; trivial
   ·have hne:y≠x:=fun q=>by
     subst q
     exact hij' (nodup_at hB.nodup hv hy)
    have hji:¬ j=i:=fun q=>hij' q.symm
    revert hj
    cases getS ρ j with
    | unset=>exact fun h=>h
    | val q=>exact fun ⟨u,h1,h2⟩=>⟨u,by simp [hne,h1],h2⟩
    | own l' =>
     intro ⟨hz',ws',h1,h2,h3,h4,h5⟩
     have hne2:=St.own_ne (H:=H) (ρ:=ρ) (B:=B) hn h2
     obtain ⟨o,n,ho,hc,hdn,hd⟩:=h2
     refine ⟨hz',ws',by simp [hne,h1,hji],?_,h3,by simpa [hji] using h4,by simpa [hji] using h5⟩
     simp only [hji,if_false]
     exact ⟨o,n,keep _ o ho hne2,hc,hdn,hd⟩
 ·rw [getS_put] at ha hb
  obtain ⟨ya,hya⟩:=Option.isSome_iff_exists.mp hsa
  obtain ⟨yb,hyb⟩:=Option.isSome_iff_exists.mp hsb'
  by_cases h1:a=i
  ·subst h1
   have h2:¬ b=a:=Ne.symm hab
   rw [if_neg (fun q=>hab q.1)] at hb
   simp only [if_true,h2,if_false]
   exact Nat.ne_of_gt (hlt b yb _ hyb hb)
  ·rw [if_neg (fun q=>h1 q.1.symm)] at ha
   by_cases h2:b=i
   ·subst h2
    simp only [if_true,h1,if_false]
    exact Nat.ne_of_lt (hlt a ya _ hya ha)
   ·rw [if_neg (fun q=>h2 q.1.symm)] at hb
    simp only [h1,h2,if_false]
    exact hdd a b _ _ hab ha hb hsa hsb'
 ·exact fun q=>by rw [q] at hb; exact absurd hN (Nat.not_le.mpr hb)
theorem ss_own {d:Nat} (hB:B.Ok d) {x:Str} {xp lp pos:Pos} {es:List Expr} {i:Nat} {f:List Slot→Res (List PV)} (hv:B.vs[i]?=some x) (hk:B.env.kindOf x=some .local)
  (he:SEs prog w Γ B es f):SS prog w Γ B (.Assign [.Name x xp] (.List es lp) pos) (fun ρ=>(f ρ).bind fun vs=>if vs.length≤lim then .ok (.next,putS ρ i (.own vs)) else .stuck):=by
 intro H ρ s Q E hs hp
 refine wpAny_Assign_Name (List_ (he lp H ρ s _ _ hs (PostS.bind hp fun p ws s₁ H₁ _ e₁ r hp₁=>?_))) (notComp_swaps rfl)
 by_cases hz:p.length≤lim
 ·rw [if_pos hz] at hp₁
  refine wpAny_newObj_type ?_ (by show ws.toArray.size≤sizeLine; rw [List.size_toArray,r.length]; exact lim_line hz)
  exact store_own hB (hs.ext e₁) hv hk r hz fun s' hs' ex=>hp₁ .next s' H₁ ex hs' rfl
 ·rw [if_neg hz] at hp₁; exact hp₁.elim
theorem ss_app {d : Nat} (hB : B.Ok d) {x : Str} {xp apos cpos pos : Pos} {e : Expr} {i : Nat} {f : List Slot → Res PV} (hv : B.vs[i]? = some x) (hk : B.env.kindOf x = some .local) (hd : (x == ("__debug__" : Str)) = false)
  (hln:(apos.endLine == cpos.line)=true) (hst:notStar e=true) (hi:interactive B.env=false)
  (he : SE prog w Γ B e f) : SS prog w Γ B (.Expr (.Call (.Attribute (.Name x xp) "append" apos) [e] [] cpos) pos)
   (fun ρ=>match getS ρ i with | .own l=>(f ρ).bind fun v=>if l.length<lim then .ok (.next,putS ρ i (.own (l++[v]))) else .stuck | _=>.stuck):=by
 intro H ρ s Q E hs hp
 have htr:backTo cpos (starEach [e] B.env)=[(false,eval e B.env)]:=by rw [starEach_cons hst]; rfl
 have main : ∀ l,getS ρ i = .own l → wpAny (model prog w) B.A (eval (.Call (.Attribute (.Name x xp) "append" apos) [e] [] cpos) B.env) (fun v s' => match v with | .ref _ => False | _ => Q .next s') E s := by
  intro l hg
  simp only [hg] at hp
  refine wpAny_Call_append rfl (by rw [htr]; rfl) hln htr ?_
  obtain ⟨m,oa,hn,hl,hN,hsl,hdd⟩:=hs.loc
  have h0:=hsl i x hv
  rw [hg] at h0
  obtain ⟨hz,ws,h1,h2,h3,h4,h5⟩:=h0
  refine wpAny_Name (wpAny_loadName_local hB.kind hk hn h1 ⟨oa i,ws.toArray,rfl,?_,?_⟩) hd
  ·obtain ⟨o,n,ho,hc,hdn,hdt⟩:=h2; exact ⟨o,n,ho,hc,hdn,hdt⟩
  refine he H ρ s _ _ hs (PostS.bind hp fun p v s₁ H₁ _ e₁ r hp₁=>?_)
  by_cases hll:l.length<lim
  ·rw [if_pos hll] at hp₁
   have hs₁:=hs.ext e₁
   have h2':=h2.ups e₁.ups
   have hn':s₁.heap.Ns B.env.locals m:=e₁.ups.ns hn
   have hne:oa i≠B.env.locals:=St.own_ne (H:=H) (ρ:=ρ) hn h2
   obtain ⟨o,n,ho,hc,hdn,hdt⟩:=id h2'
   have h4':H₁.get? (oa i)=none:=by
    obtain ⟨o0,n0,ho0,_,_,hdt0⟩:=h2
    exact e₁.old _ o0 ho0 (fun vs q=>by rw [hdt0] at q; cases q) h4
   have hl':H₁.get? B.env.locals=none:=by
    obtain ⟨o0,_,_,ho0,hd0,_⟩:=hn
    exact e₁.old _ o0 ho0 (fun vs q=>by rw [hd0] at q; cases q) hl
   refine list_append_plainL (its:=ws.toArray) ⟨o,n,ho,hc,hdn,hdt⟩ (fun h' hpl hsb=>?_) (by rw [List.size_toArray,h3.length]; exact lim_line hz)
   show Q .next _
   have keep:∀ b o,s₁.heap.get? b=some o→b≠oa i→h'.get? b=some o:=fun b o e hb=>(hsb.2 b hb).trans e
   have hst':H₁.StaysIn h':=fun b o e=>keep b o (hs₁.stays b o e) fun q=>by rw [q,h4'] at e; cases e
   have hown:OwnAt h' (oa i) (ws++[v]):=by
    obtain ⟨o',n',a1,a2,a3,a4⟩:=hpl
    exact ⟨o',n',a1,a2,a3,by rw [a4]; simp⟩
   refine hp₁ .next _ H₁ ⟨stays_refl _,fun _ _ _ _ _ e=>e,hst',fun b o hb e _=>⟨o.slots,keep b o e ?_⟩,rfl,rfl⟩ ⟨hs₁.base,hst',?_,m,oa,?_,hl',hN,fun j y hy=>?_,fun a b l₁ l₂ hab ha hb hsa hsb'=>?_⟩ rfl
   ·exact fun q=>by rw [q] at hb; exact absurd h5 (Nat.not_le.mpr hb)
   ·obtain ⟨o',n',a1,a2,a3,a4⟩:=hpl
    have:=hs₁.frames
    clear hp₁ hp
    revert this
    generalize B.fenv::B.outer=L
    intro this
    induction L with
    | nil=>trivial
    | cons v r ih =>
     obtain ⟨hk',⟨L',o₁,hf,hnn,ho₁,hd₁⟩,hr⟩:=this
     refine ⟨hk',?_,ih hr⟩
     by_cases q:L'=oa i
     ·subst q; exact ⟨_,o',hf,hnn,a1,fun vs q=>by rw [a4] at q; cases q⟩
     ·exact ⟨L',o₁,hf,hnn,keep _ _ ho₁ q,hd₁⟩
   ·obtain ⟨o',es',ep',a1,a2⟩:=hn'
    exact ⟨o',es',ep',keep _ _ a1 hne.symm,a2⟩
   ·rw [getS_put]
    by_cases hij:i=j∧i<ρ.length
    ·obtain ⟨rfl,hlen⟩:=hij
     rw [if_pos ⟨rfl,hlen⟩]
     rw [hv] at hy; obtain rfl:=Option.some.inj hy
     exact ⟨by rw [List.length_append]; exact hll,ws++[v],h1,hown,(h3.mono e₁.grow).append (.one r),h4',h5⟩
    ·rw [if_neg hij]
     have hij':i≠j:=fun q=>hij ⟨q,getS_lt hg⟩
     have hj:=hsl j y hy
     revert hj
     cases hgj:getS ρ j with
     | unset=>exact fun h=>h
     | val q=>exact fun ⟨u,k1,k2⟩=>⟨u,k1,k2.mono e₁.grow⟩
     | own l' =>
      intro ⟨hz',ws',k1,k2,k3,k4,k5⟩
      have hne3:oa j≠oa i:=hdd j i l' l (Ne.symm hij') hgj hg (by rw [hy]; rfl) (by rw [hv]; rfl)
      have k4':H₁.get? (oa j)=none:=by
       obtain ⟨o0,n0,ho0,_,_,hdt0⟩:=k2
       exact e₁.old _ o0 ho0 (fun vs q=>by rw [hdt0] at q; cases q) k4
      obtain ⟨o2,n2,ho2,hc2,hdn2,hdt2⟩:=k2.ups e₁.ups
      exact ⟨hz',ws',k1,⟨o2,n2,keep _ _ ho2 hne3,hc2,hdn2,hdt2⟩,k3.mono e₁.grow,k4',k5⟩
   ·rw [getS_put] at ha hb
    have ha':∃ l,getS ρ a=.own l:=by
     split at ha
     ·rename_i q; exact ⟨l,by rw [← q.1]; exact hg⟩
     ·exact ⟨_,ha⟩
    have hb':∃ l,getS ρ b=.own l:=by
     split at hb
     ·rename_i q; exact ⟨l,by rw [← q.1]; exact hg⟩
     ·exact ⟨_,hb⟩
    obtain ⟨la,ha'⟩:=ha'
    obtain ⟨lb,hb'⟩:=hb'
    exact hdd a b la lb hab ha' hb' hsa hsb'
  ·rw [if_neg hll] at hp₁; exact hp₁.elim
 cases hg:getS ρ i with
 | own l=>exact wpAny_Expr (main l hg) hi rfl
 | unset=>simp only [hg] at hp; exact hp.elim
 | val q=>simp only [hg] at hp; exact hp.elim
end
end Mine
namespace Mine
open PySem PyProof.Rows
section
variable {prog:Program} {w:World} {Γ:Ct} {B:Bl}
theorem ss_aug {d:Nat} (hB:B.Ok d) {x:Str} {xp pos:Pos} {op:Operator} {o:BOp} {e:Expr} {i:Nat} {f:List Slot→Res PV} (hv:B.vs[i]?=some x) (hk:B.env.kindOf x=some .local)
  (ho:bopOk op o=true) (he:SE prog w Γ B e f) :
  SS prog w Γ B (.AugAssign (.Name x xp) op e pos) (fun ρ=>match getS ρ i with | .val x=>(f ρ).bind fun y=>(augP o x y).bind fun v=>.ok (.next,putS ρ i (.val v)) | _=>.stuck):=by
 intro H ρ s Q E hs hp
 obtain ⟨m,oa,hn,hl,hN,hsl,hdd⟩:=hs.loc
 have h0:=hsl i x hv
 cases hg:getS ρ i with
 | unset=>simp only [hg] at hp; exact hp.elim
 | own l=>simp only [hg] at hp; exact hp.elim
 | val p =>
  simp only [hg] at hp
  rw [hg] at h0
  obtain ⟨v,hm,hr⟩:=h0
  refine wpAny_AugAssign_Name (wpAny_loadName_local hB.kind hk hn hm ?_)
  refine he H ρ s _ _ hs (PostS.bind hp fun q u s₁ H₁ _ e₁ r hp₁=>?_)
  cases of_decide_eq_true ho
  cases o <;> first | exact hp₁.elim | skip
  refine onI_k (Z:=fun r=>PostS Γ B H₁ s₁ (r.bind fun v=>.ok (.next,putS ρ i (.val v))) Q E) (P:=fun p=>Rep H p v→wpAny (model prog w) B.A (inplaceOp .Add v u) _ _ s₁) id hp₁ (fun a hp₁ hr=>?_) hr
  refine onI_k (Z:=fun r=>PostS Γ B H₁ s₁ (r.bind fun v=>.ok (.next,putS ρ i (.val v))) Q E) (P:=fun q=>Rep H₁ q u→wpAny (model prog w) B.A (inplaceOp .Add v u) _ _ s₁) id hp₁ (fun b hp₁ r=>?_) r
  obtain ⟨t,rfl⟩:=hr
  obtain ⟨t',rfl⟩:=r
  refine P.iadd_int ?_
  exact store_var hB (s:={ s₁ with toks:=s₁.toks+1 }) ((hs.ext e₁).ext (.refl (hs.ext e₁).stays)) hv hk (by exact ⟨_,rfl⟩) fun s' hs' ex=>hp₁ .next s' H₁ (ExtS.trans (.refl (hs.ext e₁).stays) ex) hs' rfl
theorem Bl.Ok.frame {d:Nat} (hB:B.Ok d) {H:Heap} {ρ:List Slot} {s:Shared} (hs:St Γ B H ρ s):∃ L,B.fenv.frame=some L:=by
 obtain ⟨_,⟨L,_,hf,_⟩,_⟩:=hs.frames
 exact ⟨L,hf⟩
theorem came {d:Nat} (hB:B.Ok d) {H H':Heap} {ρ:List Slot} {s:Shared} (hs:St Γ B H ρ s) {e:Addr} {s':Shared} {E:Value→Shared→Prop}
  (x:Flown H' (B.fenv::B.outer) e s'.heap) (hE:∀ h',Flown H' (B.fenv::B.outer) e h'→s'.heap.UpToSlots h'→E (.ref e) { s' with heap:=h' }) :
  notedBy (model prog w) B.A B.env (cameBackBy (model prog w) B.A B.env E) (.ref e) s':=by
 obtain ⟨L,hf⟩:=hB.frame hs
 exact came_flown hB.fr hB.stack hf x hE
theorem whileN_succ (t:List Slot→Res Bool) (b:List Slot→Res (Fl × List Slot)) (n:Nat) (ρ:List Slot):whileN t b (n+1) ρ=(t ρ).bind fun c=>if c then
   match b ρ with
   | .ok (.next,ρ')=>whileN t b n ρ'
   | .ok (.brk,ρ')=>.ok (.next,ρ')
   | .ok (.ret v,ρ')=>.ok (.ret v,ρ')
   | .exc=>.exc
   | .stuck=>.stuck
  else .ok (.next,ρ):=rfl
theorem ss_while {d:Nat} (hB:B.Ok d) {t:Expr} {b:List Stmt} {pos:Pos} {c:List Slot→Res Bool} {f:List Slot→Res (Fl × List Slot)} (ht:SB prog w Γ B t c) (hb:SSs prog w Γ B b f) (W:Nat) :
  SS prog w Γ B (.While t b [] pos) (fun ρ=>whileN c f W ρ):=by
 intro H ρ s Q E hs hp
 refine wpAny_While ?_
 refine codeAny_whileLoop (fun n s'=>∃ H' ρ',ExtS B.N₀ H s H' s'∧St Γ B H' ρ' s'∧PostS Γ B H' s' (whileN c f n ρ') Q E) ?_ W ⟨H,ρ,.refl hs.stays,hs,hp⟩
 rintro n s' ⟨H',ρ',ex,hs',hp'⟩
 cases n with
 | zero=>exact hp'.elim
 | succ n =>
  rw [whileN_succ] at hp'
  have exc:∀ (e:Addr) (s'':Shared) (H'':Heap),ExtS B.N₀ H' s' H'' s''→Flown H'' (B.fenv::B.outer) e s''.heap →
    (∀ e s'' H'',ExtS B.N₀ H' s' H'' s''→Flown H'' (B.fenv::B.outer) e s''.heap→E (.ref e) s'') →
    notedBy (model prog w) B.A B.env (cameBackBy (model prog w) B.A B.env E) (.ref e) s'':=fun e s'' H'' ex' fl hE =>
   came hB hs' fl fun h' fl' u=>hE e { s'' with heap:=h' } H'' (ex'.ups' u fl'.stays) fl'
  refine ht H' ρ' s' _ _ hs' ?_
  cases hc:c ρ' with
  | stuck=>rw [hc] at hp'; exact hp'.elim
  | exc=>rw [hc] at hp'; exact fun e s'' H'' e' fl=>exc e s'' H'' e'.toS fl hp'
  | ok y =>
   rw [hc] at hp'
   intro y' s₁ H₁ e₁ hy
   subst hy
   have hs₁:=hs'.ext e₁
   have hp₁:=PostS.ext hp' e₁.toS
   cases y with
   | false =>
    show wpAny _ _ (execs [] _) _ _ _
    exact wpAny_execs_nil (hp₁ .next s₁ H₁ (.refl hs₁.stays) hs₁ rfl)
   | true =>
    show wpAny _ _ (execs b _) _ _ _
    refine hb H₁ ρ' s₁ _ _ hs₁ ?_
    have hp₁:PostS Γ B H₁ s₁ (match f ρ' with | .ok (.next,ρ')=>whileN c f n ρ' | .ok (.brk,ρ')=>.ok (.next,ρ') | .ok (.ret v,ρ')=>.ok (.ret v,ρ') | .exc=>.exc | .stuck=>.stuck) Q E:=hp₁
    have hp':PostS Γ B H' s' (match f ρ' with | .ok (.next,ρ')=>whileN c f n ρ' | .ok (.brk,ρ')=>.ok (.next,ρ') | .ok (.ret v,ρ')=>.ok (.ret v,ρ') | .exc=>.exc | .stuck=>.stuck) Q E:=hp'
    cases hf:f ρ' with
    | stuck=>rw [hf] at hp₁; exact hp₁.elim
    | exc =>
     simp only [hf] at hp'
     exact fun e s'' H'' e' fl=>exc e s'' H'' (e₁.toS.trans e') fl hp'
    | ok q =>
     obtain ⟨fl,ρ''⟩:=q
     cases fl with
     | next =>
      simp only [hf] at hp₁
      intro g s₂ H₂ e₂ hs₂ hfl
      cases hfl
      exact ⟨n,Nat.lt_succ_self _,H₂,ρ'',(ex.trans e₁.toS).trans e₂,hs₂,PostS.ext hp₁ e₂⟩
     | brk =>
      simp only [hf] at hp₁
      intro g s₂ H₂ e₂ hs₂ hfl
      cases hfl
      exact hp₁ .next s₂ H₂ e₂ hs₂ rfl
     | ret v =>
      simp only [hf] at hp₁
      intro g s₂ H₂ e₂ hs₂ hfl
      obtain ⟨u,rfl,hr⟩:=hfl
      exact hp₁ _ s₂ H₂ e₂ hs₂ ⟨u,rfl,hr⟩
theorem ss_raise {d : Nat} (hΓ : Γ.Ok) (hB : B.Ok d) {x : Str} {np kp cpos pos : Pos} {k : Nat} {t : Str} (hx : x = Str.ofString "ValueError") (hk : B.env.kindOf x = some .globalImplicit) (hd : (x == ("__debug__" : Str)) = false) :
  SS prog w Γ B (.Raise (some (.Call (.Name x np) [.Constant (.str t) k kp] [] cpos)) none pos) (fun _=>.exc):=by
 intro H ρ s Q E hs hp
 refine Raise_madeB F.excCall_ValueError F.excRaise_ValueError hB.hand ?_
 refine word_name hΓ hB hk hd (by subst hx; decide) (by subst hx; exact Boot.«ValueError») hs ⟨rfl,?_⟩
 refine Calls.spliced_cons (Calls.Constant_str (k:=k) (pos:=kp) (Calls.spliced_nil ⟨by show 1≤sizeLine; decide,fun h' e hm=>?_⟩))
 have hm':=hm.of
 have ex:Ext H s H { s with heap:=h' }:=.keeps hs.stays hm'.keeps
 refine hp e _ H (Ext.toS (.keeps hs.stays hm'.keeps)) (.inr (.inr ⟨ex.stays,none_of_stays hs.stays hm'.new,(show Heap.FunFrames h' H _ from frames_ext (s':={ s with heap:=h' }) hs.frames ex),?_⟩))
 obtain ⟨tt,he,_,_⟩:=hm'.there
 exact ⟨_,_,_,he,rfl,rfl,rfl,rfl⟩
end
end Mine
namespace Mine
open PySem PyProof.Rows
section
variable {prog:Program} {w:World} {Γ:Ct} {B:Bl}
theorem swap_gen (c1 c2 c3 c4 c5:Bool) (ns:List Str) (what:String) :
  (if c1=true then (pure none:Sem (Option (List Str))) else if c2=true then pure none else if c3=true then pure none else if c4=true then pure none else if c5=true then unsupported what else pure (some ns)) =
  match (if c1=true then some none else if c2=true then some none else if c3=true then some none else if c4=true then some none else if c5=true then none else some (some ns)) with
   | some r=>pure r
   | none=>unsupported what:=by
 cases c1 <;> cases c2 <;> cases c3 <;> cases c4 <;> cases c5 <;> rfl
theorem swapped_eq (ts:List Expr) (k:Nat) (p:Pos) (value:Expr) (env:Env) :
  swappedStores [.Tuple ts k p] value env=match swP (fun x=>env.kindOf x == some .local) (env.blockKind == .function) [.Tuple ts k p] value with
   | some r=>pure r
   | none => unsupported "assign.tuple-of-constant-expressions:order-of-the-stores" := by
 cases value with
 | Tuple vs k' p' =>
  unfold swappedStores swP
  dsimp only
  have e1:(env.blockKind != .function)=!(env.blockKind == .function):=rfl
  rw [e1]
  exact swap_gen _ _ _ _ _ _ _
 | _=>rfl
theorem store_many {α:Type} (nm:α→Str) {d:Nat} (hB:B.Ok d) {H:Heap} {tgt:α→Value→Sem Unit}
  (ht:∀ x v s (Q:Unit→Shared→Prop) (E:Value→Shared→Prop),wpAny (model prog w) B.A (storeName B.env (nm x) v) Q E s→wpAny (model prog w) B.A (tgt x v) Q E s) :
  ∀ {xs:List α} {is:List Nat} {ps:List PV} {vs:List Value} {ρ:List Slot} {s:Shared} (_:St Γ B H ρ s)
  (_:(xs.map nm).map some=is.map (fun i=>B.vs[i]?)) (_:∀ x∈xs,B.env.kindOf (nm x)=some .local) (_:RepL H ps vs) (_:ps.length=is.length)
  {Q:Unit→Shared→Prop} {E:Value→Shared→Prop} (_:∀ s',St Γ B H (putsS ρ is ps) s'→ExtS B.N₀ H s H s'→Q () s'),
  wpAny (model prog w) B.A (assignInOrder (xs.map tgt) vs) Q E s:=by
 intro xs
 induction xs with
 | nil =>
  intro is ps vs ρ s hs hx hk hr hl Q E k
  have:is=[]:=by cases is <;> simp_all
  subst this
  have:ps=[]:=by cases ps <;> simp_all
  subst this
  rw [RepL] at hr; subst hr
  exact wpAny_pure (k s hs (.refl hs.stays))
 | cons x xs ih =>
  intro is ps vs ρ s hs hx hk hr hl Q E k
  cases is with
  | nil=>simp at hx
  | cons i is =>
   cases ps with
   | nil=>simp at hl
   | cons p ps =>
    rw [RepL] at hr
    obtain ⟨v,t,rfl,hp,hr⟩:=hr
    simp only [List.map_cons,List.cons.injEq] at hx
    show wpAny _ _ (do holding t (tgt x v); assignInOrder (xs.map tgt) t) _ _ _
    refine wpAny_bind (wpAny_holding (ht _ _ _ _ _ ?_))
    refine store_var hB hs hx.1.symm (hk x (.head _)) hp fun s' hs' ex=>?_
    exact ih hs' hx.2 (fun y hy=>hk y (.tail _ hy)) hr (by simpa using hl) fun s'' hs'' ex'=>k s'' hs'' (ex.trans ex')
theorem ns_names {N:Nm}:∀ {ts:List Expr} {is:List Nat},chkNs N ts is=true →
  ∃ xs:List (Str × Pos),ts=xs.map (fun q=>Expr.Name q.1 q.2)∧(xs.map (·.1)).map some=is.map (fun i=>N.vs[i]?)∧∀ q∈xs,N.names.lookup q.1=some .local
 | ts,[],h=>onL0_k (P:=fun ts=>∃ xs:List (Str × Pos),ts=xs.map (fun q=>Expr.Name q.1 q.2)∧(xs.map (·.1)).map some=([]:List Nat).map (fun i=>N.vs[i]?)∧∀ q∈xs,N.names.lookup q.1=some .local) (by cases ts <;> exact h:onL0 ts true=true)
   fun _=>⟨[],rfl,rfl,fun _ h=>nomatch h⟩
 | [],_::_,h=>ff h
 | e::r,i::t,h=>onName_k (P:=fun e=>∃ xs:List (Str × Pos),e::r=xs.map (fun q=>Expr.Name q.1 q.2)∧(xs.map (·.1)).map some=(i::t).map (fun i=>N.vs[i]?)∧∀ q∈xs,N.names.lookup q.1=some .local) (show onName e _=true from h) fun x p h=>by
  obtain ⟨h3,h4,_⟩:=var_names (aL h)
  obtain ⟨xs,e1,e2,e3⟩:=ns_names (aR h)
  refine ⟨(x,p)::xs,by rw [e1]; rfl,by simp only [List.map_cons,e2,h3],fun q hq=>?_⟩
  rcases List.mem_cons.mp hq with rfl | hq
  ·exact h4
  ·exact e3 q hq
theorem each_names (env:Env):∀ xs:List (Str × Pos),assignEach (xs.map fun q=>Expr.Name q.1 q.2) env=xs.map fun q=>(false,assign (.Name q.1 q.2) env)
 | []=>rfl
 | q::r=>by
  show (false,assign (.Name q.1 q.2) env)::assignEach (r.map _) env=_
  rw [each_names env r]; rfl
theorem RepL.reverse {H:Heap}:∀ {l:List PV} {ws:List Value},RepL H l ws→RepL H l.reverse ws.reverse
 | [],ws,x=>by rw [RepL] at x; subst x; simp [RepL]
 | p::r,ws,x=>by
  rw [RepL] at x
  obtain ⟨w,t,rfl,hp,hr⟩:=x
  rw [List.reverse_cons,List.reverse_cons]
  exact (RepL.reverse hr).append (.one hp)
theorem unpack_items {d:Nat} (hB:B.Ok d) {H:Heap} {ρ:List Slot} {s:Shared} (hs:St Γ B H ρ s) {n:Nat} {p:PV} {v:Value} (hr:Rep H p v) {ps:List PV} (hu:unpackP n p=.ok ps)
  {Q:List Value→Shared→Prop} {E:Value→Shared→Prop} (k:∀ ws s',ps.length=n→RepL H ps ws→St Γ B H ρ s'→ExtS B.N₀ H s H s'→Q ws s') :
  wpAny (model prog w) B.A (unpackItems v n none) Q E s:=by
 cases p <;> simp only [unpackP] at hu <;> first | (cases hu; done) | skip
 rename_i l
 by_cases hl:l.length=n
 ·rw [if_pos hl] at hu; cases hu
  rw [Rep] at hr
  obtain ⟨a,ws,rfl,ht,hz,hrl⟩:=hr
  have hsz:n=ws.toArray.size:=by rw [List.size_toArray,hrl.length,hl]
  rw [hsz]
  have ht':s.heap.IsTuple a ws.toArray:=let ⟨o,ho,r⟩:=ht; ⟨o,hs.stays _ _ ho,r⟩
  refine wpAny_unpackItems_tuple hB.hand ht' fun h' he=>?_
  have kp:s.heap.StaysIn h':=fun b o e=>he b o (Nat.ne_of_lt (Heap.lt_size e)) e
  have ex:Ext H s H { s with heap:=h' }:=.keeps hs.stays kp
  exact k _ _ hl hrl (hs.ext (s':={ s with heap:=h' }) ex) ex.toS
 ·rw [if_neg hl] at hu; cases hu
theorem kind_fn {env:Env} (h:env.scope.kind=.function):env.blockKind=.function:=by unfold Env.blockKind; rw [h]; rfl
theorem ss_assignT {d:Nat} (hB:B.Ok d) {N:Nm} (hN:N.vs=B.vs) (hNn:N.names=B.env.scope.names) {ts:List Expr} {tk:Nat} {tp pos:Pos} {e:Expr} {rev:Bool} {is:List Nat} {f:List Slot→Res PV}
  (hts:chkNs N ts is=true) (hn:notComp e=true) (hsw:swOk N rev [.Tuple ts tk tp] e is=true) (he:SE prog w Γ B e f) :
  SS prog w Γ B (.Assign [.Tuple ts tk tp] e pos) (fun ρ=>(f ρ).bind fun v=>(unpackP is.length v).bind fun vs=>.ok (.next,if rev then putsS ρ is.reverse vs.reverse else putsS ρ is vs)):=by
 obtain ⟨xs,rfl,hx,hk⟩:=ns_names hts
 rw [hN] at hx
 have hk':∀ q∈xs,B.env.kindOf q.1=some .local:=fun q hq=>by show B.env.scope.names.lookup q.1=_; rw [← hNn]; exact hk q hq
 have hswap:swapsWithSole [.Tuple (xs.map fun q=>Expr.Name q.1 q.2) tk tp] e pos.line B.env=pure false:=by
  unfold swapsWithSole
  exact notComp_swaps hn
 have hst:=swapped_eq (xs.map fun q=>Expr.Name q.1 q.2) tk tp e B.env
 have hfun:(fun x=>B.env.kindOf x == some .local)=fun x=>N.names.lookup x == some .local:=by
  funext x; show (B.env.scope.names.lookup x == _)=_; rw [hNn]
 rw [hfun,kind_fn hB.kind] at hst
 unfold swOk at hsw
 intro H ρ s Q E hs hp
 have go:∀ p v s₁ H₁,St Γ B H₁ ρ s₁→Rep H₁ p v→PostS Γ B H₁ s₁ ((unpackP is.length p).bind fun vs=>.ok (.next,if rev then putsS ρ is.reverse vs.reverse else putsS ρ is vs)) Q E →
   ∃ ps,unpackP is.length p=.ok ps:=fun p v s₁ H₁ _ _ hp₁=>by
  cases hu:unpackP is.length p with
  | ok ps=>exact ⟨ps,rfl⟩
  | stuck=>rw [hu] at hp₁; exact hp₁.elim
  | exc=>cases p <;> simp only [unpackP] at hu <;> first | (cases hu; done) | (split at hu <;> cases hu)
 cases hw:swP (fun x=>N.names.lookup x == some .local) true [.Tuple (xs.map fun q=>Expr.Name q.1 q.2) tk tp] e with
 | none=>rw [hw] at hsw; cases hsw
 | some r =>
  rw [show ((ScopeKind.function == ScopeKind.function):Bool)=true from rfl,hw] at hst
  rw [hw] at hsw
  cases r with
  | none =>
   have hst:swappedStores [.Tuple (xs.map fun q=>Expr.Name q.1 q.2) tk tp] e B.env=pure none:=hst
   have hrev:rev=false:=by simpa using hsw
   subst hrev
   refine Assign_Tuple (he H ρ s _ _ hs (PostS.bind hp fun p v s₁ H₁ _ e₁ rr hp₁=>?_)) hswap hst
   obtain ⟨ps,hu⟩:=go p v s₁ H₁ (hs.ext e₁) rr hp₁
   rw [hu] at hp₁
   rw [arm_assign_Tuple]
   refine wpAny_bind (wpAny_standAt ?_)
   unfold unpack
   rw [each_names]
   have hfi:(xs.map fun q=>((false,assign (.Name q.1 q.2) B.env):Bool × (Value→Sem Unit))).findIdx? (·.1)=none:=by
    rw [List.findIdx?_eq_none_iff]; intro x hx'; obtain ⟨q,_,rfl⟩:=List.mem_map.mp hx'; rfl
   rw [hfi]
   have hlen:(xs.map fun q=>((false,assign (.Name q.1 q.2) B.env):Bool × (Value→Sem Unit))).length=is.length:=by
    have:=congrArg List.length hx; simpa using this
   rw [hlen]
   refine wpAny_bind (wpAny_holding (unpack_items hB (hs.ext e₁) rr hu fun ws s₂ hpl hrl hs₂ ex₂=>?_))
   rw [List.map_map]
   refine store_many (fun q:Str × Pos=>q.1) hB (tgt:=fun q=>assign (.Name q.1 q.2) B.env) (fun q v s Q E h=>wpAny_assign_Name h) hs₂ hx hk' hrl hpl fun s₃ hs₃ ex₃=>?_
   exact hp₁ .next s₃ H₁ (ex₂.trans ex₃) hs₃ rfl
  | some ns =>
   have hst:swappedStores [.Tuple (xs.map fun q=>Expr.Name q.1 q.2) tk tp] e B.env=pure (some ns):=hst
   simp only [Bool.and_eq_true,beq_iff_eq] at hsw
   obtain ⟨hrev,hns⟩:=hsw
   subst hrev
   rw [hN] at hns
   have hnse:ns=xs.map (·.1):=by
    have:ns.map some=(xs.map (·.1)).map some:=hns.trans hx.symm
    exact (List.map_inj_right (fun _ _ h=>Option.some.inj h)).mp this
   subst hnse
   refine Assign_Tuple_swapped (he H ρ s _ _ hs (PostS.bind hp fun p v s₁ H₁ _ e₁ rr hp₁=>?_)) hswap hst
   obtain ⟨ps,hu⟩:=go p v s₁ H₁ (hs.ext e₁) rr hp₁
   rw [hu] at hp₁
   have hlen:(xs.map (·.1)).length=is.length:=by
    have:=congrArg List.length hx; simpa using this
   rw [hlen]
   refine unpack_items hB (hs.ext e₁) rr hu fun ws s₂ hpl hrl hs₂ ex₂=>?_
   rw [← List.map_reverse]
   rw [List.map_map]
   refine store_many (fun q:Str × Pos=>q.1) hB (tgt:=fun q=>bindName B.env q.1) (fun q v s Q E h=>wpAny_bindName h) (is:=is.reverse) hs₂ ?_ (fun q hq=>hk' q (List.mem_reverse.mp hq)) hrl.reverse (by simpa using hpl) fun s₃ hs₃ ex₃=>?_
   ·rw [List.map_reverse,List.map_reverse,hx,List.map_reverse]
   ·exact hp₁ .next s₃ H₁ (ex₂.trans ex₃) hs₃ rfl
end
end Mine
namespace Mine
open PySem PyProof.Rows
noncomputable def itTypes : List String := ["list_iterator","tuple_iterator","range_iterator","bytes_iterator"]
noncomputable def IterObj (o:Obj):Prop:=∃ T∈itTypes,o.cls=.type T∧∃ vs,o.data=.fields vs
noncomputable def It (prog:Program) (w:World) (A:Around) (H:Heap) (I:Addr) (l:List PV) (Sx:Nat→Heap→Prop):Prop :=
 ∃ fp P,Walks prog w A I fp [I] l.length P Sx∧(∀ b∈fp,b≠I→∃ o,H.get? b=some o)∧(∀ i v,i<l.length→P i v→∃ p,l[i]?=some p∧Rep H p v) ∧
  (∀ i h,Sx i h→∃ o,h.get? I=some o∧IterObj o)
section
variable {prog:Program} {w:World} {Γ:Ct} {B:Bl}
theorem It.mono {A:Around} {H H':Heap} {I:Addr} {l:List PV} {Sx:Nat→Heap→Prop} (x:It prog w A H I l Sx) (h:H.StaysIn H'):It prog w A H' I l Sx :=
 let ⟨fp,P,W,h1,h2,h3⟩:=x; ⟨fp,P,W,fun b hb hn=>let ⟨o,ho⟩:=h1 b hb hn; ⟨o,h b o ho⟩,fun i v hi hv=>let ⟨p,hp,hr⟩:=h2 i v hi hv; ⟨p,hp,hr.mono h⟩,h3⟩
theorem iter_of {A:Around} (hh:A.handled=none) {H:Heap} {s:Shared} (hst:H.StaysIn s.heap) {p:PV} {v:Value} {l:List PV} (hr:Rep H p v) (hl:itemsP p=.ok l) {Q:Value→Shared→Prop} {E:Value→Shared→Prop}
  (k:∀ s' Sx,Ext H s H s'→H.get? s.heap.objs.size=none→s.heap.get? s.heap.objs.size=none→It prog w A H s.heap.objs.size l Sx→Sx 0 s'.heap→Q (.ref s.heap.objs.size) s') :
  wpAny (model prog w) A (pyIter v) Q E s:=by
 have hn:s.heap.get? s.heap.objs.size=none:=none_of_size (Nat.le_refl _)
 have hH:H.get? s.heap.objs.size=none:=none_of_stays hst hn
 have hne:∀ a o,H.get? a=some o→a≠s.heap.objs.size:=fun a o e q=>by rw [q,hH] at e; cases e
 cases p <;> simp only [itemsP] at hl <;> first | (cases hl; done) | skip
 ·rename_i ks
  cases hl
  rw [Rep] at hr
  obtain ⟨b,t,rfl,hb,hz⟩:=hr
  refine PySem.W.KBw.pyIter_bytes ?_
  refine k _ (fun i h=>PySem.W.KBw.IsBytesIter h s.heap.objs.size b t i) (.push hst _) hH hn ⟨[s.heap.objs.size],fun i v=>∃ c u,b[i]?=some c∧v=.int (c.toNat:Int) u,?_,?_,?_,?_⟩ ⟨_,Heap.get?_push_size _ rfl,rfl,rfl⟩
  ·have:=PySem.W.KBw.walks (prog:=prog) (w:=w) hh s.heap.objs.size b t
   have e:(List.map PV.int ks).length=b.size:=by rw [List.length_map,← hb]; simp [bInt]
   rw [e]; exact this
  ·intro b' hb' hn'; simp at hb'; exact absurd hb' hn'
  ·rintro i v hi ⟨c,u,hc,rfl⟩
   refine ⟨.int c.toNat,?_,by rw [Rep]; exact ⟨_,rfl⟩⟩
   rw [List.getElem?_map,← hb]
   simp [bInt,hc]
  ·rintro i h ⟨o,ho,hc,hd⟩
   exact ⟨o,ho,"bytes_iterator",by decide,hc,_,hd⟩
 ·rename_i ps
  cases hl
  rw [Rep] at hr
  obtain ⟨a,ws,rfl,ht,hz,hrl⟩:=hr
  obtain ⟨o₀,ho₀,hc₀,n₀,hd₀⟩:=id ht
  have ht':s.heap.IsTuple a ws.toArray:=⟨o₀,hst _ _ ho₀,hc₀,n₀,hd₀⟩
  refine wpAny_pyIter_tuple ht' ?_
  refine k _ (fun i h=>h.IsTupleIter s.heap.objs.size a i∧h.IsTuple a ws.toArray) (.push hst _) hH hn ⟨[s.heap.objs.size,a],fun i v=>ws.toArray[i]?=some v,?_,?_,?_,?_⟩ ⟨⟨_,Heap.get?_push_size _ rfl,rfl,rfl⟩,ht'.push _⟩
  ·have:=Walks.tuple (prog:=prog) (w:=w) hh s.heap.objs.size a (hne a _ ho₀) ws.toArray
   have e:l.length=ws.toArray.size:=by simp [hrl.length]
   rw [e]; exact this
  ·intro b' hb' hn'; simp at hb'; rcases hb' with rfl | rfl
   ·exact absurd rfl hn'
   ·exact ⟨o₀,ho₀⟩
  ·intro i v hi hv
   obtain ⟨p,hp⟩:∃ p,l[i]?=some p:=⟨l[i],by simp [hi]⟩
   obtain ⟨u,hu,hr⟩:=hrl.get hp
   rw [List.getElem?_toArray,hu] at hv; cases hv
   exact ⟨p,hp,hr⟩
  ·rintro i h ⟨⟨o,ho,hc,hd⟩,_⟩
   exact ⟨o,ho,"tuple_iterator",by decide,hc,_,hd⟩
 ·rename_i ps
  cases hl
  rw [Rep] at hr
  obtain ⟨a,ws,rfl,ht,hz,hrl⟩:=hr
  obtain ⟨o₀,ho₀,hc₀,n₀,hd₀⟩:=id ht
  have ht':s.heap.IsList a ws.toArray:=⟨o₀,hst _ _ ho₀,hc₀,n₀,hd₀⟩
  refine wpAny_pyIter_list ht' ?_
  refine k _ (fun i h=>h.IsListIter s.heap.objs.size a i∧h.IsList a ws.toArray) (.push hst _) hH hn ⟨[s.heap.objs.size,a],fun i v=>ws.toArray[i]?=some v,?_,?_,?_,?_⟩ ⟨⟨_,Heap.get?_push_size _ rfl,rfl,rfl⟩,ht'.push _⟩
  ·have:=Walks.list (prog:=prog) (w:=w) hh s.heap.objs.size a (hne a _ ho₀) ws.toArray
   have e:l.length=ws.toArray.size:=by simp [hrl.length]
   rw [e]; exact this
  ·intro b' hb' hn'; simp at hb'; rcases hb' with rfl | rfl
   ·exact absurd rfl hn'
   ·exact ⟨o₀,ho₀⟩
  ·intro i v hi hv
   obtain ⟨p,hp⟩:∃ p,l[i]?=some p:=⟨l[i],by simp [hi]⟩
   obtain ⟨u,hu,hr⟩:=hrl.get hp
   rw [List.getElem?_toArray,hu] at hv; cases hv
   exact ⟨p,hp,hr⟩
  ·rintro i h ⟨⟨o,ho,hc,hd⟩,_⟩
   exact ⟨o,ho,"list_iterator",by decide,hc,_,hd⟩
theorem St.add {H:Heap} {ρ:List Slot} {s:Shared} (hs:St Γ B H ρ s) {I:Addr} {o:Obj} {vs:Array Value} (ho:s.heap.get? I=some o) (hd:o.data=.fields vs) :
  ∃ H',H.StaysIn H'∧H'.get? I=some o∧(∀ b,b≠I→H'.get? b=H.get? b)∧St Γ B H' ρ s:=by
 obtain ⟨H',k1,k2,k3,k4⟩:=add_exists hs.stays ho
 have ne:∀ b o',s.heap.get? b=some o'→NF o'→b≠I:=fun b o' e hn q=>by
  rw [q,ho] at e; obtain rfl:=Option.some.inj e; exact hn vs hd
 refine ⟨H',k1,k3,k4,stays_trans hs.base k1,k2,?_,?_⟩
 ·exact funFrames_base' hs.frames fun b o' e hn h0=>by rw [k4 b (ne b o' e hn)]; exact h0
 ·obtain ⟨m,oa,hn,hl,hN,hsl,hdd⟩:=hs.loc
  refine ⟨m,oa,hn,?_,hN,fun i x hx=>?_,hdd⟩
  ·obtain ⟨o',_,_,ho',hd',_⟩:=hn
   rw [k4 _ (ne _ o' ho' (fun vs q=>by rw [hd'] at q; cases q))]; exact hl
  ·have:=hsl i x hx
   revert this
   cases getS ρ i with
   | unset=>exact fun h=>h
   | val p=>exact fun ⟨v,a,b⟩=>⟨v,a,b.mono k1⟩
   | own l =>
    intro ⟨hz,ws,a,b,c,d,e⟩
    obtain ⟨o',_,ho',_,_,hd'⟩:=id b
    exact ⟨hz,ws,a,b,c.mono k1,by rw [k4 _ (ne _ o' ho' (fun vs q=>by rw [hd'] at q; cases q))]; exact d,e⟩
theorem St.hide {H:Heap} {ρ:List Slot} {s:Shared} (hs:St Γ B H ρ s) {I:Addr} {o:Obj} {vs:Array Value} (ho:H.get? I=some o) (hd:o.data=.fields vs) (hb:Γ.Base.get? I=none) :
  St Γ B (H.hide I) ρ s:=by
 have sub:Sub H (H.hide I):=fun b o' e hn=>by
  rw [Heap.hide_ne H (fun q=>by rw [q,ho] at e; obtain rfl:=Option.some.inj e; exact hn vs hd)]; exact e
 have none:∀ b,H.get? b=none→(H.hide I).get? b=none:=fun b e=>none_of_stays (fun c o'=>Heap.of_hide) e
 refine ⟨fun b o' e=>?_,fun b o' e=>hs.stays b o' (Heap.of_hide e),funFrames_base' hs.frames fun b _ _ _ h0=>none b h0,?_⟩
 ·rw [Heap.hide_ne H (fun q=>by rw [q,hb] at e; cases e)]; exact hs.base b o' e
 ·obtain ⟨m,oa,hn,hl,hN,hsl,hdd⟩:=hs.loc
  refine ⟨m,oa,hn,none _ hl,hN,fun i x hx=>?_,hdd⟩
  have:=hsl i x hx
  revert this
  cases getS ρ i with
  | unset=>exact fun h=>h
  | val p=>exact fun ⟨v,a,b⟩=>⟨v,a,b.sub sub⟩
  | own l=>exact fun ⟨hz,ws,a,b,c,d,e⟩=>⟨hz,ws,a,b,c.sub sub,none _ d,e⟩
theorem codeAny_for2 {A:Around} {R:Result→Shared→Prop} {target:Expr} {it:Value} {body:List Stmt} {env:Env} {s:Shared} (I:Nat→Shared→Prop)
  (turn:∀ n s,I n s→wpAny (model prog w) A (pyNext it) (fun r s₁=>match r with
   | none=>R (.ok .next) s₁
   | some v=>wpAny (model prog w) A (letOwnedTupleGo target it v) (fun _ s₁'=>wpAny (model prog w) A (assign target env v) (fun _ s₂=>wpAny (model prog w) A (execs body env) (fun f s₃=>match f with
     | .next | .cont=>∃ m,m<n∧I m s₃
     | .brk=>R (.ok .next) s₃
     | .ret v=>R (.ok (.ret v)) s₃) (notedBy (model prog w) A env fun e s'=>R (.error e) s') s₂) (notedBy (model prog w) A env fun e s'=>R (.error e) s') s₁') (notedBy (model prog w) A env fun e s'=>R (.error e) s') s₁) (notedBy (model prog w) A env fun e s'=>R (.error e) s') s)
  (n:Nat) (h:I n s):codeAny (model prog w) A (.forLoop target it body [] env) R s:=by
 refine codeAny_loop' rfl I (fun n s hI=>?_) n h
 show wpAny _ _ ((forTurn target it body [] env).onRaise (fun x=>do noteFrame x env; theTreesLotGoes x)) _ _ s
 refine wpAny_noted ?_
 simp only [forTurn]
 refine wpAny_bind (wpAny_standAt (wpAny_bind (wpAny_onRaise (wpAny_mono (turn n s hI) (fun r s₁ h₁=>?_) fun _ _ h'=>wpAny_standAt h'))))
 cases r with
 | none=>exact wpAny_pure (.inr ⟨rfl,codeAny_block (wpAny_execs_nil h₁)⟩)
 | some v =>
  refine wpAny_bind (wpAny_mono h₁ (fun _ s₁' h₁'=>?_) fun _ _ h'=>h')
  refine wpAny_bind (wpAny_mono h₁' (fun _ s₂ h₂=>wpAny_bind (wpAny_mono h₂ (fun f s₃ h₃=>?_) fun _ _ h'=>h')) fun _ _ h'=>h')
  cases f with
  | next=>exact wpAny_pure (.inl ⟨rfl,h₃⟩)
  | cont=>exact wpAny_pure (.inl ⟨rfl,h₃⟩)
  | brk=>exact wpAny_pure h₃
  | ret v=>exact wpAny_pure h₃
noncomputable def SetOk (prog:Program) (w:World) (Γ:Ct) (B:Bl) (target:Expr) (set:List Slot→PV→Res (List Slot)):Prop :=
 ∀ H ρ s p v I o (Q:Unit→Shared→Prop) (E:Value→Shared→Prop),St Γ B H ρ s→Rep H p v→H.get? I=some o→IterObj o →
  (match set ρ p with | .ok ρ'=>∀ s',St Γ B H ρ' s'→ExtS B.N₀ H s H s'→Q () s' | _=>False) →
  wpAny (model prog w) B.A (letOwnedTupleGo target (.ref I) v) (fun _ s₁=>wpAny (model prog w) B.A (assign target B.env v) Q E s₁) E s
theorem forN_cons (set:List Slot→PV→Res (List Slot)) (b:List Slot→Res (Fl × List Slot)) (v:PV) (r:List PV) (ρ:List Slot):forN set b (v::r) ρ=(set ρ v).bind fun ρ' =>
   match b ρ' with
   | .ok (.next,ρ'')=>forN set b r ρ''
   | .ok (.brk,ρ'')=>.ok (.next,ρ'')
   | .ok (.ret v,ρ'')=>.ok (.ret v,ρ'')
   | .exc=>.exc
   | .stuck=>.stuck:=rfl
theorem for_loop {d:Nat} (hB:B.Ok d) {target:Expr} {body:List Stmt} {set:List Slot→PV→Res (List Slot)} {f:List Slot→Res (Fl × List Slot)} (hset:SetOk prog w Γ B target set) (hsetE:∀ ρ p,set ρ p≠.exc)
  (hb:SSs prog w Γ B body f) {H:Heap} {ρ:List Slot} {s:Shared} (hs:St Γ B H ρ s) {I:Addr} {l:List PV} {Sx:Nat→Heap→Prop} (it:It prog w B.A H I l Sx) (h0:Sx 0 s.heap) (hI:H.get? I=none)
  (hbase:Γ.Base.get? I=none) {Q:Flow→Shared→Prop} {E:Value→Shared→Prop} (hp:PostS Γ B H s (forN set f l ρ) Q E) :
  codeAny (model prog w) B.A (.forLoop target (.ref I) body [] B.env) (fun r s'=>match r with | .ok f=>Q f s' | .error e=>cameBackBy (model prog w) B.A B.env E e s') s:=by
 refine codeAny_for2 (fun n s'=>∃ H' ρ' i,n=l.length - i∧i≤l.length∧ExtS B.N₀ H s H' s'∧St Γ B H' ρ' s'∧H'.get? I=none∧Sx i s'.heap∧It prog w B.A H' I l Sx∧PostS Γ B H' s' (forN set f (l.drop i) ρ') Q E)
  ?_ l.length ⟨H,ρ,0,rfl,Nat.zero_le _,.refl hs.stays,hs,hI,h0,it,by simpa using hp⟩
 intro n s' hI
 refine nc fun hG=>?_
 obtain ⟨H',ρ',i,hn,hi,ex,hs',hI',hsx,it',hp'⟩:=hI
 obtain ⟨fp,P,W,hfp,hP,hobj⟩:=id it'
 obtain ⟨oI,hoI,hoIt⟩:=hobj i _ hsx
 have ne:∀ b o',s'.heap.get? b=some o'→NF o'→b≠I:=fun b o' e hn q=>by
  obtain ⟨_,_,_,vs,hd⟩:=hoIt
  rw [q,hoI] at e; obtain rfl:=Option.some.inj e; exact hn vs hd
 have turned:∀ h',(∀ b o,b ∉ [I]→s'.heap.get? b=some o→h'.get? b=some o)→∀ tk,St Γ B H' ρ' { s' with heap:=h',toks:=tk }∧ExtS B.N₀ H' s' H' { s' with heap:=h',toks:=tk }:=fun h' hk tk=>by
  have kp:∀ b o,s'.heap.get? b=some o→NF o→h'.get? b=some o:=fun b o e hn=>hk b o (by simpa using ne b o e hn) e
  have ex':Ext H' s' H' { s' with heap:=h',toks:=tk }:=⟨stays_refl _,fun _ _ _ _ e=>e,fun b o e=>hk b o (by simpa using fun q=>by rw [q,hI'] at e; cases e) (hs'.stays b o e),fun b o e hn=>⟨o.slots,kp b o e hn⟩,rfl,rfl⟩
  exact ⟨hs'.ext (s':={ s' with heap:=h',toks:=tk }) ex',ex'.toS⟩
 by_cases hlt:i<l.length
 ·refine hG (W.item i s' _ _ hlt hsx fun v h' tk hv hsx' hk=>?_)
  clear hG
  refine nc fun hG=>?_
  obtain ⟨p,hpi,hrep⟩:=hP i v hlt hv
  obtain ⟨hs₁,ex₁⟩:=turned h' hk tk
  have hdrop:l.drop i=p::l.drop (i+1):=by
   rw [List.drop_eq_getElem_cons hlt]
   obtain ⟨_,e⟩:=List.getElem?_eq_some_iff.mp hpi
   rw [e]
  rw [hdrop,forN_cons] at hp'
  obtain ⟨oJ,hoJ,hoJt⟩:=hobj (i+1) _ hsx'
  obtain ⟨T,hT,hcls,vs,hdat⟩:=id hoJt
  obtain ⟨Hp,k1,k2,k3,hs₂⟩:=hs₁.add (I:=I) hoJ hdat
  refine hG ?_
  clear hG
  show wpAny _ _ (letOwnedTupleGo target (.ref I) v) _ _ _
  refine hset Hp ρ' _ p v I oJ _ _ hs₂ (hrep.mono k1) k2 hoJt ?_
  cases hse:set ρ' p with
  | stuck=>rw [hse] at hp'; exact hp'.elim
  | exc=>exact absurd hse (hsetE _ _)
  | ok ρ₁ =>
   rw [hse] at hp'
   intro s₃ hs₃ ex₃
   have hp':PostS Γ B H' s' (match f ρ₁ with
    | .ok (.next,ρ'')=>forN set f (l.drop (i+1)) ρ''
    | .ok (.brk,ρ'')=>.ok (.next,ρ'')
    | .ok (.ret v,ρ'')=>.ok (.ret v,ρ'')
    | .exc=>.exc
    | .stuck=>.stuck) Q E:=hp'
   have back:∀ H₄ s₄,ExtS B.N₀ Hp s₃ H₄ s₄→ExtS B.N₀ H' s' (H₄.hide I) s₄:=fun H₄ s₄ e₄=>by
    have e:=ex₃.trans e₄
    refine ⟨fun b o q=>?_,fun b o hb q nf z=>?_,fun b o q=>e₄.stays b o (Heap.of_hide q),fun b o hb q nf=>?_,e.same⟩
    ·rw [Heap.hide_ne _ (fun z=>by rw [z,hI'] at q; cases q)]
     exact e.grow b o (k1 b o q)
    ·have hbI:=ne b o q nf
     have q':=hk b o (by simpa using hbI) q
     exact none_of_stays (fun c o'=>Heap.of_hide) (e.old b o hb q' nf (by rw [k3 b hbI]; exact z))
    ·have hbI:=ne b o q nf
     exact e.ups b o hb (hk b o (by simpa using hbI) q) nf
   refine hb Hp ρ₁ s₃ _ _ hs₃ ?_
   cases hf:f ρ₁ with
   | stuck=>simp only [hf] at hp'; exact hp'.elim
   | exc =>
    simp only [hf] at hp'
    intro e s₄ H₄ e₄ fl
    refine came hB hs' (H':=H₄.hide I) ?_ fun h'' fl' u=>hp' e { s₄ with heap:=h'' } (H₄.hide I) ((back H₄ s₄ e₄).ups' u fl'.stays) fl'
    exact fl.hide I e₄.stays
   | ok q =>
    obtain ⟨fl,ρ₂⟩:=q
    cases fl with
    | next =>
     simp only [hf] at hp'
     intro g s₄ H₄ e₄ hs₄ hfl
     cases hfl
     have hoK:H₄.get? I=some oJ:=e₄.grow _ _ k2
     refine ⟨l.length - (i+1),by rw [hn]; lia,H₄.hide I,ρ₂,i+1,rfl,hlt,ex.trans (back H₄ s₄ e₄),hs₄.hide hoK hdat hbase,Heap.hide_self _ _,?_,?_,PostS.ext hp' (back H₄ s₄ e₄)⟩
     ·refine W.frame (i+1) h' _ hsx' fun b hb' o q=>?_
      by_cases hbI:b=I
      ·subst hbI
       rw [hoJ] at q; obtain rfl:=Option.some.inj q
       exact hs₄.stays _ _ hoK
      ·obtain ⟨o',ho'⟩:=hfp b hb' hbI
       have:=hs₁.stays b o' ho'
       rw [show h'.get? b=some o from q] at this
       obtain rfl:=Option.some.inj this
       exact hs₄.stays _ _ (e₄.grow _ _ (ex₃.grow _ _ (k1 b o ho')))
     ·exact it'.mono (back H₄ s₄ e₄).grow
    | brk =>
     simp only [hf] at hp'
     intro g s₄ H₄ e₄ hs₄ hfl
     cases hfl
     exact hp' .next s₄ (H₄.hide I) (back H₄ s₄ e₄) (hs₄.hide (e₄.grow _ _ k2) hdat hbase) rfl
    | ret u =>
     simp only [hf] at hp'
     intro g s₄ H₄ e₄ hs₄ hfl
     obtain ⟨u',rfl,hru⟩:=hfl
     refine hp' _ s₄ (H₄.hide I) (back H₄ s₄ e₄) (hs₄.hide (e₄.grow _ _ k2) hdat hbase) ⟨u',rfl,?_⟩
     exact hru.sub fun b o' e hn=>by
      rw [Heap.hide_ne _ (fun q=>by
       rw [q,e₄.grow _ _ k2] at e; obtain rfl:=Option.some.inj e; exact hn vs hdat)]; exact e
 ·have hie:i=l.length:=Nat.le_antisymm hi (Nat.le_of_not_lt hlt)
  rw [hie,List.drop_length] at hp'
  rw [hie] at hsx
  refine hG (W.done s' _ _ hsx fun h' tk hk=>?_)
  obtain ⟨hs₁,ex₁⟩:=turned h' hk tk
  exact hp' .next { s' with heap:=h',toks:=tk } H' ex₁ hs₁ rfl
theorem set_name {d:Nat} (hB:B.Ok d) {x:Str} {xp:Pos} {i:Nat} (hv:B.vs[i]?=some x) (hk:B.env.kindOf x=some .local) :
  SetOk prog w Γ B (.Name x xp) (fun ρ v=>.ok (putS ρ i (.val v))):=by
 intro H ρ s p v I o Q E hs hr _ _ hp
 refine wpAny_pure (wpAny_assign_Name ?_)
 exact store_var hB hs hv hk hr fun s' hs' ex=>hp s' hs' ex
theorem set_tuple {d:Nat} (hB:B.Ok d) {N:Nm} (hN:N.vs=B.vs) (hNn:N.names=B.env.scope.names) {ts:List Expr} {tk:Nat} {tp:Pos} {is:List Nat} (hts:chkNs N ts is=true) :
  SetOk prog w Γ B (.Tuple ts tk tp) (fun ρ v=>(unpackP is.length v).bind fun vs=>.ok (putsS ρ is vs)):=by
 obtain ⟨xs,rfl,hx,hk⟩:=ns_names hts
 rw [hN] at hx
 have hk':∀ q∈xs,B.env.kindOf q.1=some .local:=fun q hq=>by show B.env.scope.names.lookup q.1=_; rw [← hNn]; exact hk q hq
 intro H ρ s p v I o Q E hs hr hI hIt hp
 dsimp only at hp
 cases hu:unpackP is.length p with
 | stuck=>rw [hu] at hp; exact hp.elim
 | exc=>rw [hu] at hp; exact hp.elim
 | ok ps =>
  rw [hu] at hp
  have main:∀ s',St Γ B H ρ s'→ExtS B.N₀ H s H s'→wpAny (model prog w) B.A (assign (.Tuple (xs.map fun q=>Expr.Name q.1 q.2) tk tp) B.env v) Q E s':=fun s' hs' ex'=>by
   rw [arm_assign_Tuple]
   refine wpAny_bind (wpAny_standAt ?_)
   unfold unpack
   rw [each_names]
   have hfi:(xs.map fun q=>((false,assign (.Name q.1 q.2) B.env):Bool × (Value→Sem Unit))).findIdx? (·.1)=none:=by
    rw [List.findIdx?_eq_none_iff]; intro x hx'; obtain ⟨q,_,rfl⟩:=List.mem_map.mp hx'; rfl
   rw [hfi]
   have hlen:(xs.map fun q=>((false,assign (.Name q.1 q.2) B.env):Bool × (Value→Sem Unit))).length=is.length:=by
    have:=congrArg List.length hx; simpa using this
   rw [hlen]
   refine wpAny_bind (wpAny_holding (unpack_items hB hs' hr hu fun ws s₂ hpl hrl hs₂ ex₂=>?_))
   rw [List.map_map]
   refine store_many (fun q:Str × Pos=>q.1) hB (tgt:=fun q=>assign (.Name q.1 q.2) B.env) (fun q v s Q E h=>wpAny_assign_Name h) hs₂ hx hk' hrl hpl fun s₃ hs₃ ex₃=>?_
   exact hp s₃ hs₃ ((ex'.trans ex₂).trans ex₃)
  obtain ⟨T,hT,hcls,vs,hdat⟩:=hIt
  unfold letOwnedTupleGo
  cases v with
  | ref a =>
   dsimp only
   refine wpAny_bind (wpAny_load (hs.stays _ _ hI) ?_)
   rw [hcls,hdat]
   dsimp only
   rw [if_neg ?_]
   ·exact wpAny_pure (main s hs (.refl hs.stays))
   ·simp only [itTypes,List.mem_cons,List.not_mem_nil,or_false] at hT
    rcases hT with rfl | rfl | rfl | rfl <;> simp
  | _=>exact wpAny_pure (main s hs (.refl hs.stays))
theorem folded_not {e:Expr} {env:Env} (h:notSet e=true) (x:Value):foldedSetIterable e env x=pure x:=by
 cases e <;> first | rfl | cases h
theorem ss_for {d:Nat} (hB:B.Ok d) {target e:Expr} {body:List Stmt} {pos:Pos} {set:List Slot→PV→Res (List Slot)} {f:List Slot→Res (Fl × List Slot)} {g:List Slot→Res PV} (hset:SetOk prog w Γ B target set) (hsetE:∀ ρ p,set ρ p≠.exc)
  (hn:notSet e=true) (he:SE prog w Γ B e g) (hb:SSs prog w Γ B body f) :
  SS prog w Γ B (.For target e body [] pos) (fun ρ=>(g ρ).bind fun x=>(itemsP x).bind fun l=>forN set f l ρ):=by
 intro H ρ s Q E hs hp
 refine wpAny_For (he H ρ s _ _ hs (PostS.bind hp fun p v s₁ H₁ _ e₁ rr hp₁=>?_)) (folded_not hn)
 cases hl:itemsP p with
 | stuck=>rw [hl] at hp₁; exact hp₁.elim
 | exc=>cases p <;> cases hl
 | ok l =>
  rw [hl] at hp₁
  have hs₁:=hs.ext e₁
  refine iter_of hB.hand hs₁.stays rr hl fun s₂ Sx e₂ h1 h2 it h0=>?_
  exact for_loop hB hset hsetE hb (hs₁.ext e₂) it h0 h1 (none_of_stays (stays_trans hs₁.base hs₁.stays) h2) (PostS.ext hp₁ e₂.toS)
end
end Mine
namespace Mine
open PySem PyProof.Rows
structure Pre (Γ:Ct) (d:Nat) (A:Around) (H:Heap) (l:List Env) (s:Shared):Prop where
 base:Γ.Base.StaysIn H
 stays:H.StaysIn s.heap
 frames:s.heap.FunFrames H l
 stack:A.frames=some l
 hand:A.handled=none
 depth:A.depth+d≤recursionLimit
 units:A.units+8 * d+100≤cLine
noncomputable def Con (prog:Program) (w:World) (Γ:Ct) (d:Nat) (x:Str) (args:List PV) (r:Res PV):Prop :=
 ∀ a A H l s ws (Q E:Value→Shared→Prop),Γ.mg x=some (.ref a)→Pre Γ d A H l s→RepL H args ws→Post Rep l H s r Q E→wpAny (model prog w) A (call (.ref a) ws) Q E s
noncomputable def FnAt (Γ:Ct) (x:Str):Prop:=∃ a o fd,Γ.mg x=some (.ref a)∧Γ.Base.get? a=some o∧o.data=.func fd
section
variable {prog:Program} {w:World} {Γ:Ct} {B:Bl}
theorem Bl.Ok.pre {d:Nat} (hB:B.Ok d) {H:Heap} {ρ:List Slot} {s:Shared} (hs:St Γ B H ρ s):Pre Γ d B.A H (B.fenv::B.outer) s :=
 ⟨hs.base,hs.stays,hs.frames,hB.stack,hB.hand,hB.depth,hB.units⟩
theorem se_call {d : Nat} (hΓ : Γ.Ok) (hB : B.Ok d) {x : Str} {p pos : Pos} {e : Expr} {es : List Expr} {f : List Slot → Res (List PV)} {F : List PV → Res PV} (hk : B.env.kindOf x = some .globalImplicit) (hd : (x == ("__debug__" : Str)) = false)
  (hfn:FnAt Γ x) (hn:notStar e=true) (hes:SEs prog w Γ B (e::es) f) (hF:∀ args,Con prog w Γ d x args (F args)) :
  SE prog w Γ B (.Call (.Name x p) (e::es) [] pos) (fun ρ=>(f ρ).bind F):=by
 intro H ρ s Q E hs hp
 obtain ⟨a,o,fd,hm,ho,hdat⟩:=hfn
 refine Call_Name rfl (top_name hΓ hB hk hd hm hs ?_)
 have he:backTo pos (starEach (e::es) B.env)=(false,eval e B.env)::backTo pos (starEach es B.env):=by rw [starEach_cons hn]; rfl
 rw [he]
 refine Calls.callWith_function (o:=o) (fd:=fd) (Calls.evalArgs_plain ?_)
 rw [← he]
 refine hes pos H ρ s _ _ hs (Post.bind hp fun ps ws s₁ H₁ _ e₁ r hp₁=>?_)
 have hs₁:=hs.ext e₁
 exact ⟨⟨stays_trans hs₁.base hs₁.stays _ _ ho,hdat⟩,hF ps a B.A H₁ _ s₁ ws _ _ hm (hB.pre hs₁) r hp₁⟩
theorem sub_VE : isSubtype (.type "ValueError") (.type "ValueError") = pure true := by rw [isSubtype_type]; kernel_rfl
theorem caught {d : Nat} (hΓ : Γ.Ok) (hB : B.Ok d) {v y : Str} {vp yp cp ap hp' : Pos} {k : Nat} {c : Const} {j : Nat} {pv : PV} (hv : v = Str.ofString "ValueError") (hvk : B.env.kindOf v = some .globalImplicit) (hvd : (v == ("__debug__" : Str)) = false)
  (hy:B.vs[j]?=some y) (hyk:B.env.kindOf y=some .local) (hl:litOk c pv=true) (hlb:∀ l,pv=.bytes l→l.length≤1048576)
  {H:Heap} {ρ:List Slot} {s:Shared} (hs:St Γ B H ρ s) {e:Addr} (fl:Flown H (B.fenv::B.outer) e s.heap) {Q:Flow→Shared→Prop} {E:Value→Shared→Prop}
  (kq:∀ s' H',ExtS B.N₀ H s H' s'→St Γ B H' (putS ρ j (.val pv)) s'→Q .next s') :
  wpAny (model prog w) B.A (noteFrame (.ref e) B.env) (fun _ s₂=>wpAny (model prog w) B.A (setFlight (.ref e) none) (fun _ s₃ =>
   wpAny (model prog w) B.A (handleBy (.ref e) B.env [.ExceptHandler (some (.Name v vp)) none [.Assign [.Name y yp] (.Constant c k cp) ap] hp']) Q E s₃) E s₂) E s:=by
 obtain ⟨L,hf⟩:=hB.frame hs
 rw [noteFrame_eq hB.fr]
 refine note_flown hB.stack hf fl fun h₁ a0 held u₁=>?_
 refine wpAny_landsW held fun h₂ fly u₂=>?_
 have ex:Ext H s H { s with heap:=h₂ }:=⟨stays_refl _,fun _ _ _ _ e=>e,fly.1,u₁.trans u₂,rfl,rfl⟩
 have hs₂:St Γ B H ρ { s with heap:=h₂ }:=hs.ext ex
 refine wpAny_handleBy_builtin (X := "ValueError") (T := "ValueError") (b := true) F.isExc_ValueError F.notTuple_ValueError sub_VE ?_
 have hT : ∀ s' : Shared,s'.heap = h₂ → s'.TypeIs (.ref e) "ValueError" := fun s' q => by
  obtain ⟨ob,ho,hc⟩:=fly.there
  exact ⟨ob,by rw [q]; exact ho,hc⟩
 refine Calls.Name_function_global hB.kind hvk (Calls.loadGlobal_builtin (by rw [hB.glob]; exact hΓ.g.keeps (stays_trans hs₂.base hs₂.stays)) (hΓ.word v (by subst hv; decide)).1
  (by rw [hB.bui]; exact hΓ.b.keeps (stays_trans hs₂.base hs₂.stays)) ((hΓ.word v (by subst hv; decide)).2.trans (by subst hv; exact Boot.«ValueError»)) ⟨rfl,hT _ rfl,?_⟩) hvd
 refine lands_againW fly fun h₃ fly₃ u₃=>?_
 have ex₃:Ext H s H { s with heap:=h₃ }:=⟨stays_refl _,fun _ _ _ _ e=>e,fly₃.1,(u₁.trans u₂).trans u₃,rfl,rfl⟩
 have hs₃:St Γ B H ρ { s with heap:=h₃ }:=hs.ext ex₃
 refine wpAny_execs_cons (wpAny_Assign_Name ?_ rfl)
 have:=se_lit (prog:=prog) (w:=w) (Γ:=Γ) (B:={ B with A:=B.A.mark (some (.ref e)) }) (k:=k) (pos:=cp) hl hlb H ρ { s with heap:=h₃ }
 refine this _ _ ⟨hs₃.base,hs₃.stays,hs₃.frames,let ⟨m,oa,a,b,c,d,e⟩:=hs₃.loc; ⟨m,oa,a,b,c,d,e⟩⟩ fun v' s₄ H₄ ex₄ r=>?_
 have hs₄:St Γ B H₄ ρ s₄:=hs₃.ext ex₄
 exact store_var hB hs₄ hy hyk r fun s₅ hs₅ ex₅=>wpAny_execs_nil (kq s₅ H₄ ((ex₃.toS.trans ex₄.toS).trans ex₅) hs₅)
theorem ss_try1 {d:Nat} (hΓ:Γ.Ok) (hB:B.Ok d) {x v y:Str} {xp asp vp yp cp ap hp' pos:Pos} {k:Nat} {c:Const} {i j:Nat} {pv:PV} {e:Expr} {f:List Slot→Res PV}
  (hx:B.vs[i]?=some x) (hxk:B.env.kindOf x=some .local) (hn:notComp e=true) (he:SE prog w Γ B e f)
  (hv : v = Str.ofString "ValueError") (hvk : B.env.kindOf v = some .globalImplicit) (hvd : (v == ("__debug__" : Str)) = false)
  (hy:B.vs[j]?=some y) (hyk:B.env.kindOf y=some .local) (hl:litOk c pv=true) (hlb:∀ l,pv=.bytes l→l.length≤1048576) :
  SS prog w Γ B (.Try [.Assign [.Name x xp] e asp] [.ExceptHandler (some (.Name v vp)) none [.Assign [.Name y yp] (.Constant c k cp) ap] hp'] [] [] pos)
   (fun ρ=>match f ρ with | .ok q=>.ok (.next,putS ρ i (.val q)) | .exc=>.ok (.next,putS ρ j (.val pv)) | .stuck=>.stuck):=by
 intro H ρ s Q E hs hp
 refine wpAny_Try_except (wpAny_execs_cons (wpAny_Assign_Name (he H ρ s _ _ hs ?_) (notComp_swaps hn)))
 cases hf:f ρ with
 | stuck=>simp only [hf] at hp; exact hp.elim
 | ok q =>
  simp only [hf] at hp
  intro u s₁ H₁ e₁ r
  exact store_var hB (hs.ext e₁) hx hxk r fun s' hs' ex=>wpAny_execs_nil (wpAny_execs_nil (hp .next s' H₁ (e₁.toS.trans ex) hs' rfl))
 | exc =>
  simp only [hf] at hp
  intro e' s₁ H₁ e₁ fl
  exact caught hΓ hB hv hvk hvd hy hyk hl hlb (hs.ext e₁) fl fun s' H' ex hs'=>hp .next s' H' (e₁.toS.trans ex) hs' rfl
end
end Mine
namespace Mine
open PySem PyProof.Rows
section
variable {prog:Program} {w:World} {Γ:Ct} {B:Bl}
theorem ss_forR {d:Nat} (hΓ:Γ.Ok) (hB:B.Ok d) {x r:Str} {xp rp cp pos:Pos} {e:Expr} {i:Nat} {body:List Stmt} {f:List Slot→Res (Fl × List Slot)} {g:List Slot→Res PV}
  (hv : B.vs[i]? = some x) (hk : B.env.kindOf x = some .local) (hr : r = Str.ofString "range") (hrk : B.env.kindOf r = some .globalImplicit) (hrd : (r == ("__debug__" : Str)) = false) (hst : notStar e = true)
  (he:SE prog w Γ B e g) (hb:SSs prog w Γ B body f) :
  SS prog w Γ B (.For (.Name x xp) (.Call (.Name r rp) [e] [] cp) body [] pos) (fun ρ=>(g ρ).bind fun x=>match x with
   | .int k=>if -(lim:Int)≤k∧k≤lim then forN (fun ρ v=>.ok (putS ρ i (.val v))) f (rangeL k) ρ else .stuck
   | _=>.stuck):=by
 intro H ρ s Q E hs hp
 refine wpAny_For ?_
 refine Call_Name rfl (word_name hΓ hB hrk hrd (by subst hr; decide) (by subst hr; exact Boot.«range») hs ?_)
 have htr:backTo cp (starEach [e] B.env)=[(false,eval e B.env)]:=by rw [starEach_cons hst]; rfl
 rw [htr]
 refine PySem.callWith_type rfl (Calls.evalArgs_plain (Calls.spliced_cons (he H ρ s _ _ hs (PostS.bind hp fun p v s₁ H₁ hgp e₁ rr hp₁=>Calls.spliced_nil ?_))))
 clear hgp
 cases p <;> first | exact hp₁.elim | skip
 rename_i N
 dsimp only at hp₁
 by_cases hN:-(lim:Int)≤N∧N≤lim
 ·rw [if_pos hN] at hp₁
  rw [Rep] at rr
  obtain ⟨t,rfl⟩:=rr
  have hs₁:=hs.ext e₁
  have hlim:(lim:Int)=1048576:=rfl
  rw [hlim] at hN
  refine call_range_1 ?_
  refine wpAny_pyIter_range (IsRange.new ..) (small_one (by decide) (by decide) (by lia) (by lia)) ?_
  have hsz:Builtin.Range.rangeSize 0 N 1=(N.toNat:Int):=by rw [rangeSize_one]; split <;> lia
  have kp : s₁.heap.StaysIn ((s₁.heap.push { cls := .type "range",data := .fields #[.int 0 s₁.toks,.int N t,.int 1 (s₁.toks + 1)] }).push { cls := .type "range_iterator",data := .fields #[rawInt 0,rawInt (Builtin.Range.rangeSize 0 N 1),rawInt 1] }) :=
   stays_trans (stays_push _ _) (stays_push _ _)
  have ex : Ext H₁ s₁ H₁ { s₁ with heap := (s₁.heap.push { cls := .type "range",data := .fields #[.int 0 s₁.toks,.int N t,.int 1 (s₁.toks + 1)] }).push { cls := .type "range_iterator",data := .fields #[rawInt 0,rawInt (Builtin.Range.rangeSize 0 N 1),rawInt 1] },toks := s₁.toks + 1 + 1 } := .keeps hs₁.stays kp
  have hlen:(rangeL N).length=N.toNat:=by simp [rangeL]
  have hnew:s₁.heap.get? (s₁.heap.objs.size+1)=none:=none_of_size (Nat.le_succ _)
  have hI:H₁.get? (s₁.heap.objs.size+1)=none:=none_of_stays hs₁.stays hnew
  have hsz' : (s₁.heap.push ({ cls := .type "range",data := .fields #[.int 0 s₁.toks,.int N t,.int 1 (s₁.toks + 1)] } : Obj)).objs.size = s₁.heap.objs.size + 1 := Heap.size_push _ _
  have main:=for_loop hB (set_name (prog:=prog) (w:=w) (Γ:=Γ) (xp:=xp) hB hv hk) (fun _ _ q=>nomatch q) hb
   (s := { s₁ with heap := (s₁.heap.push { cls := .type "range",data := .fields #[.int 0 s₁.toks,.int N t,.int 1 (s₁.toks + 1)] }).push { cls := .type "range_iterator",data := .fields #[rawInt 0,rawInt (Builtin.Range.rangeSize 0 N 1),rawInt 1] },toks := s₁.toks + 1 + 1 })
   (hs₁.ext (s':={ s₁ with heap:=_,toks:=s₁.toks+1+1 }) ex) (I:=s₁.heap.objs.size+1) (l:=rangeL N)
   (Sx:=fun i h=>IsRangeIter h (s₁.heap.objs.size+1) (0+(i:Nat) * 1) ((N.toNat:Int) - (i:Nat)) 1) ?_ ?_ hI (none_of_stays (stays_trans hs₁.base hs₁.stays) hnew) (PostS.ext hp₁ ex.toS)
  ·have:=main
   rw [← hsz'] at this
   exact this
  ·refine ⟨[s₁.heap.objs.size+1],fun i v=>∃ t,v=.int (0+(i:Nat) * 1) t,?_,?_,?_,?_⟩
   ·rw [hlen]; exact Walks.range hB.hand _ 0 1 N.toNat
   ·intro b hb' hn; simp at hb'; exact absurd hb' hn
   ·rintro i v hi ⟨t,rfl⟩
    rw [hlen] at hi
    refine ⟨.int i,by simp [rangeL,hi],?_⟩
    rw [Rep]; exact ⟨t,by simp⟩
   ·intro i h q
    exact ⟨_,q,"range_iterator",by decide,rfl,_,rfl⟩
  ·show IsRangeIter _ _ _ _ _
   have e1:(0+((0:Nat):Int) * 1)=0:=by simp
   have e2:((N.toNat:Int) - ((0:Nat):Int))=Builtin.Range.rangeSize 0 N 1:=by rw [hsz]; simp
   rw [e1,e2]
   have := Heap.get?_push_size (s₁.heap.push { cls := .type "range",data := .fields #[.int 0 s₁.toks,.int N t,.int 1 (s₁.toks + 1)] }) (o := { cls := .type "range_iterator",data := .fields #[rawInt 0,rawInt (Builtin.Range.rangeSize 0 N 1),rawInt 1] }) rfl
   rw [hsz'] at this
   exact this
 ·rw [if_neg hN] at hp₁; exact hp₁.elim
end
end Mine
namespace Mine
open PySem PyProof.Rows
noncomputable def compEnvOf (sc:Scope) (C:Addr) (env:Env):Env:=newEnv sc C env.globals [] env.qual none .none (some env) 0
noncomputable def Bl.comp (B:Bl) (sc:Scope) (x:Str) (C:Addr):Bl :=
 { env:={ compEnvOf sc C B.env with scope:=sc },fenv:=B.fenv,outer:=B.outer,A:=B.A,N₀:=B.N₀,vs:=[x] }
section
variable {prog:Program} {w:World} {Γ:Ct} {B:Bl}
theorem Bl.Ok.comp {d:Nat} (hB:B.Ok d) {sc:Scope} (hk:sc.kind=.function) (x:Str) (C:Addr):(B.comp sc x C).Ok d :=
 ⟨hk,hB.glob,hB.bui,hB.fr,hB.stack,hB.hand,hB.depth,hB.units,by simp [Bl.comp],hB.low⟩
theorem mapR_cons {α β:Type} (f:α→Res β) (a:α) (r:List α):mapR f (a::r)=(f a).bind fun b=>(mapR f r).bind fun bs=>.ok (b::bs):=rfl
theorem held_set {H h h':Heap} {l:List Env} {e L C:Addr} {a0:Value} {m:Str→Option Value} (x:Heap.HeldW H l e VE a0 L h) (hC:H.get? C=none) (hn:h.Ns C m) (hfr:h'.FunFrames H l) (hs:Heap.SameBut C h h'):Heap.HeldW H l e VE a0 L h':=by
 obtain ⟨x1,x2,x3,oe,vs,T,oT,ts,y1,y2,y3,y4,y5,y6,y7,y8,y9⟩:=x
 have ne:∀ b o (vs:Array Value),h.get? b=some o→o.data=.fields vs→b≠C:=fun b o vs e hd q=>by
  obtain ⟨o',_,_,ho',hd',_⟩:=hn
  rw [q,ho'] at e; obtain rfl:=Option.some.inj e
  rw [hd] at hd'; cases hd'
 exact ⟨fun b o q=>(hs.2 b (fun z=>by rw [z,hC] at q; cases q)).trans (x1 b o q),x2,hfr,oe,vs,T,oT,ts,(hs.2 _ (ne _ _ _ y1 y3)).trans y1,y2,y3,y4,y5,y6,(hs.2 _ (ne _ _ _ y7 y8)).trans y7,y8,y9⟩
theorem comp_loop {d:Nat} (hB:B.Ok d) {elt iter:Expr} {x:Str} {xp pos:Pos} {sc:Scope} {f:List Slot→Res PV} (hk:sc.kind=.function) (hx:sc.names.lookup x=some .local)
  {I C D:Addr} {l:List PV} {Sx:Nat→Heap→Prop} {H₀:Heap} (helt:SE prog w Γ (B.comp sc x C) elt f) (hl:l.length≤1048576)
  {s₀:Shared} (hI₀:s₀.heap.get? I=none) (hb0:Γ.Base.StaysIn s₀.heap) (hIC:I≠C) (hID:I≠D) (hDC:D≠C) (hC₀:s₀.heap.get? C=none) (hD₀:s₀.heap.get? D=none)
  {R:Result→Shared→Prop} {s:Shared} (hex:Ext H₀ s₀ H₀ s) (hs:St Γ (B.comp sc x C) H₀ [.unset] s) (it:It prog w B.A H₀ I l Sx) (h0:Sx 0 s.heap) (hD:OwnAt s.heap D []) (hHD:H₀.get? D=none) (hHI:H₀.get? I=none)
  (hR:match mapR (fun v=>f [.val v]) l with
   | .ok ps=>∀ s' H' ws m,Ext H₀ s₀ H' s'→s'.heap.Ns C m→H'.get? C=none→OwnAt s'.heap D ws→H'.get? D=none→RepL H' ps ws→ps.length≤1048576→R (.ok .next) s'
   | .exc=>∀ e s' H' a0 L m,Ext H₀ s₀ H' s'→s'.heap.Ns C m→H'.get? C=none→B.fenv.frame=some L→Heap.HeldW H' (B.fenv::B.outer) e VE a0 L s'.heap→R (.error (.ref e)) s'
   | .stuck=>False) :
  codeAny (model prog w) B.A (.compLoop (.ListComp elt [⟨.Name x xp,iter,[],0⟩] sc pos) 0 (.ref I) (.ref D) (B.comp sc x C).env) R s:=by
 have hB':=hB.comp hk x C
 refine codeAny_compLoop_list (fun n s'=>∃ H' ρ' i ps ws,n=l.length - i∧i≤l.length∧Ext H₀ s₀ H' s'∧St Γ (B.comp sc x C) H' ρ' s'∧ρ'.length=1∧H'.get? I=none∧Sx i s'.heap∧It prog w B.A H' I l Sx ∧
   OwnAt s'.heap D ws∧H'.get? D=none∧RepL H' ps ws∧ps.length=i ∧
   (mapR (fun v=>f [.val v]) l=(mapR (fun v=>f [.val v]) (l.drop i)).bind fun bs=>.ok (ps++bs))) ?_ l.length
  ⟨H₀,[.unset],0,[],[],rfl,Nat.zero_le _,hex,hs,rfl,hHI,h0,it,hD,hHD,by rw [RepL],rfl,by simp only [List.drop_zero,List.nil_append]; cases mapR (fun v=>f [.val v]) l <;> rfl⟩
 intro n s' hI
 refine nc fun hG=>?_
 obtain ⟨H',ρ',i,ps,ws,hn,hi,ex,hs',hlen,hI',hsx,it',hD',hHD',hrl,hpl,hmap⟩:=hI
 obtain ⟨fp,P,W,hfp,hP,hobj⟩:=id it'
 obtain ⟨oI,hoI,hoIt⟩:=hobj i _ hsx
 have ne:∀ b o',s'.heap.get? b=some o'→NF o'→b≠I:=fun b o' e hn q=>by
  obtain ⟨_,_,_,vs,hd⟩:=hoIt
  rw [q,hoI] at e; obtain rfl:=Option.some.inj e; exact hn vs hd
 have turned:∀ h',(∀ b o,b ∉ [I]→s'.heap.get? b=some o→h'.get? b=some o)→∀ tk,Ext H' s' H' { s' with heap:=h',toks:=tk }:=fun h' hk tk=>by
  have kp:∀ b o,s'.heap.get? b=some o→NF o→h'.get? b=some o:=fun b o e hn=>hk b o (by simpa using ne b o e hn) e
  exact ⟨stays_refl _,fun _ _ _ _ e=>e,fun b o e=>hk b o (by simpa using fun q=>by rw [q,hI'] at e; cases e) (hs'.stays b o e),fun b o e hn=>⟨o.slots,kp b o e hn⟩,rfl,rfl⟩
 by_cases hlt:i<l.length
 ·refine hG (W.item i s' _ _ hlt hsx fun v h' tk hv hsx' hk=>?_)
  clear hG
  refine nc fun hG=>?_
  obtain ⟨p,hpi,hrep⟩:=hP i v hlt hv
  have ex₁:=turned h' hk tk
  have hs₁:St Γ (B.comp sc x C) H' ρ' { s' with heap:=h',toks:=tk }:=hs'.ext ex₁
  have hdrop:l.drop i=p::l.drop (i+1):=by
   rw [List.drop_eq_getElem_cons hlt]
   obtain ⟨_,e⟩:=List.getElem?_eq_some_iff.mp hpi
   rw [e]
  rw [hdrop,mapR_cons] at hmap
  obtain ⟨oJ,hoJ,hoJt⟩:=hobj (i+1) _ hsx'
  obtain ⟨T,hT,hcls,vs,hdat⟩:=id hoJt
  obtain ⟨Hp,k1,k2,k3,hs₂⟩:=hs₁.add (I:=I) hoJ hdat
  refine hG ?_
  clear hG
  refine wpAny_assign_Name (store_var2 (i:=0) hB' hs₂ rfl hx (hrep.mono k1) fun s₃ hs₃ ex₃ hsb₃=>?_)
  have hρ:putS ρ' 0 (.val p)=[.val p]:=by
   cases ρ' with
   | nil=>cases hlen
   | cons a r=>cases r with
    | nil=>rfl
    | cons b t=>simp at hlen
  rw [hρ] at hs₃
  have D₁:OwnAt h' D ws:=hD'.ups ex₁.ups
  have hDp:Hp.get? D=none:=by rw [k3 D (Ne.symm hID)]; exact hHD'
  have hCp:Hp.get? C=none:=by obtain ⟨_,_,_,h,_⟩:=hs₂.loc; exact h
  have D₃:OwnAt s₃.heap D ws:=by
   obtain ⟨o,n,a1,a2,a3,a4⟩:=D₁
   exact ⟨o,n,(hsb₃.2 D hDC).trans a1,a2,a3,a4⟩
  have back:∀ H₄ s₄,Ext Hp s₃ H₄ s₄→Ext H₀ s₀ (H₄.hide I) s₄:=fun H₄ s₄ e₄=>by
   have q₀:∀ b o,s₀.heap.get? b=some o→NF o→∃ sl,s₃.heap.get? b=some { o with slots:=sl }∧b≠I:=fun b o e hn=>by
    obtain ⟨sl,e'⟩:=ex.ups b o e hn
    have hbI:=ne b _ e' hn
    have hbC:b≠C:=fun z=>by rw [z,hC₀] at e; cases e
    exact ⟨sl,(hsb₃.2 b hbC).trans (hk b _ (by simpa using hbI) e'),hbI⟩
   refine ⟨fun b o q=>?_,fun b o q nf z=>?_,fun b o q=>e₄.stays b o (Heap.of_hide q),fun b o q nf=>?_,(e₄.same.1.trans ex₃.same.1).trans ex.same.1,(e₄.same.2.trans ex₃.same.2).trans ex.same.2⟩
   ·rw [Heap.hide_ne _ (fun z=>by rw [z,hHI] at q; cases q)]
    exact e₄.grow b o (k1 b o (ex.grow b o q))
   ·obtain ⟨sl,e',hbI⟩:=q₀ b o q nf
    refine none_of_stays (fun c o'=>Heap.of_hide) (e₄.old b _ e' nf ?_)
    rw [k3 b hbI]; exact ex.old b o q nf z
   ·obtain ⟨sl,e',_⟩:=q₀ b o q nf
    obtain ⟨sl',e''⟩:=e₄.ups b _ e' nf
    exact ⟨sl',e''⟩
  refine helt Hp [.val p] s₃ _ _ hs₃ ?_
  cases hf:f [.val p] with
  | stuck=>rw [hf] at hmap; rw [hmap] at hR; exact hR.elim
  | exc =>
   rw [hf] at hmap
   rw [show mapR (fun v=>f [.val v]) l=.exc from hmap] at hR
   intro e s₄ H₄ e₄ fl
   obtain ⟨L,hfr⟩:=hB'.frame hs₃
   show notedBy (model prog w) B.A (B.comp sc x C).env _ (.ref e) s₄
   unfold notedBy
   rw [noteFrame_eq (env:=(B.comp sc x C).env) (env':=B.fenv) hB'.fr]
   have hnone:∀ b,H₄.get? b=none→(H₄.hide I).get? b=none:=fun b q=>none_of_stays (fun c o'=>Heap.of_hide) q
   have fl':=fl.hide I e₄.stays
   refine note_flown hB.stack hfr fl' fun h₅ a0 held u=>?_
   obtain ⟨m,_,hnC,hC4,_⟩:=(hs₃.ext e₄).loc
   have b₄:=back H₄ s₄ e₄
   exact hR e { s₄ with heap:=h₅ } (H₄.hide I) a0 L m ⟨b₄.grow,b₄.old,held.1,b₄.ups.trans u,b₄.same⟩ (u.ns hnC) (hnone _ hC4) hfr held
  | ok y =>
   rw [hf] at hmap
   intro u s₄ H₄ e₄ ru
   have D₄:OwnAt s₄.heap D ws:=D₃.ups e₄.ups
   obtain ⟨o,n,a1,a2,a3,a4⟩:=id D₄
   have hD4:H₄.get? D=none:=by
    obtain ⟨o3,n3,b1,b2,b3,b4⟩:=id D₃
    exact e₄.old D o3 b1 (fun vs q=>by rw [b4] at q; cases q) hDp
   have hwl:ws.length≤1048576:=by rw [hrl.length,hpl]; lia
   refine list_append_plainL (its:=ws.toArray) ⟨o,n,a1,a2,a3,a4⟩ (fun h₅ hpl5 hsb₅=>?_) (by rw [List.size_toArray]; exact Nat.le_trans hwl (by decide))
   have kp5:∀ b o,s₄.heap.get? b=some o→b≠D→h₅.get? b=some o:=fun b o e hb=>(hsb₅.2 b hb).trans e
   have hst5:H₄.StaysIn h₅:=fun b o e=>kp5 b o (e₄.stays b o e) fun q=>by rw [q,hD4] at e; cases e
   have hs₄:=hs₃.ext e₄
   have hoK:H₄.get? I=some oJ:=e₄.grow _ _ k2
   have b₄:=back H₄ s₄ e₄
   have hs₅:St Γ (B.comp sc x C) H₄ [.val p] { s₄ with heap:=h₅ }:=by
    obtain ⟨m,oa,c1,c2,c3,c4,c5⟩:=hs₄.loc
    refine ⟨hs₄.base,hst5,?_,m,oa,?_,c2,c3,fun j y hy=>?_,fun a b l l' hab ha hb=>?_⟩
    ·obtain ⟨o',n',d1,d2,d3,d4⟩:=hpl5
     have:=hs₄.frames
     clear hR
     revert this
     generalize (B.comp sc x C).fenv::(B.comp sc x C).outer=L
     intro this
     induction L with
     | nil=>trivial
     | cons v r ih =>
      obtain ⟨hk',⟨L',o₁,hf,hnn,ho₁,hd₁⟩,hr⟩:=this
      refine ⟨hk',?_,ih hr⟩
      by_cases q:L'=D
      ·subst q; exact ⟨_,o',hf,hnn,d1,fun vs q=>by rw [d4] at q; cases q⟩
      ·exact ⟨L',o₁,hf,hnn,kp5 _ _ ho₁ q,hd₁⟩
    ·obtain ⟨o',es',ep',d1,d2⟩:=c1
     exact ⟨o',es',ep',kp5 _ _ d1 (Ne.symm hDC),d2⟩
    ·have:=c4 j y hy
     revert this
     cases hg:getS [Slot.val p] j with
     | unset=>exact fun h=>h
     | val q=>exact fun h=>h
     | own l' =>
      exfalso
      cases j with
      | zero=>simp [getS] at hg
      | succ j=>simp [getS] at hg
    ·exfalso
     cases a with
     | zero=>simp [getS] at ha
     | succ a=>simp [getS] at ha
   refine ⟨l.length - (i+1),by rw [hn]; lia,H₄.hide I,[.val p],i+1,ps++[y],ws++[u],rfl,hlt,?_,hs₅.hide hoK hdat (none_of_stays hb0 hI₀),rfl,Heap.hide_self _ _,?_,?_,?_,none_of_stays (fun c o'=>Heap.of_hide) hD4,?_,by simp [hpl],?_⟩
   ·refine ⟨b₄.grow,b₄.old,fun b o q=>hst5 b o (Heap.of_hide q),fun b o q nf=>?_,b₄.same⟩
    obtain ⟨sl,e'⟩:=b₄.ups b o q nf
    exact ⟨sl,kp5 b _ e' fun z=>by rw [z,hD₀] at q; cases q⟩
   ·refine W.frame (i+1) h' _ hsx' fun b hb' o q=>?_
    by_cases hbI:b=I
    ·subst hbI
     rw [hoJ] at q; obtain rfl:=Option.some.inj q
     exact hst5 _ _ hoK
    ·obtain ⟨o',ho'⟩:=hfp b hb' hbI
     have:=hs₁.stays b o' ho'
     rw [show h'.get? b=some o from q] at this
     obtain rfl:=Option.some.inj this
     exact hst5 _ _ (e₄.grow _ _ (k1 b o ho'))
   ·exact it.mono b₄.grow
   ·obtain ⟨o',n',d1,d2,d3,d4⟩:=hpl5
    exact ⟨o',n',d1,d2,d3,by rw [d4]; simp⟩
   ·have sub:Sub H₄ (H₄.hide I):=fun b o' e hn=>by
     rw [Heap.hide_ne H₄ (fun q=>by rw [q,hoK] at e; obtain rfl:=Option.some.inj e; exact hn vs hdat)]; exact e
    exact (((hrl.mono k1).mono e₄.grow).sub sub).append (.one (ru.sub sub))
   ·rw [hmap]
    cases mapR (fun v=>f [.val v]) (l.drop (i+1)) with
    | ok bs=>simp [Res.bind]
    | exc=>rfl
    | stuck=>rfl
 ·have hie:i=l.length:=Nat.le_antisymm hi (Nat.le_of_not_lt hlt)
  rw [hie,List.drop_length] at hmap
  rw [hie] at hsx
  rw [show mapR (fun v=>f [.val v]) l=.ok ps from by rw [hmap]; show Res.ok (ps++[])=_; rw [List.append_nil]] at hR
  refine hG (W.done s' _ _ hsx fun h' tk hk=>?_)
  have ex₁:=turned h' hk tk
  have hs₁:St Γ (B.comp sc x C) H' ρ' { s' with heap:=h',toks:=tk }:=hs'.ext ex₁
  obtain ⟨m,_,hnC,hC4,_⟩:=hs₁.loc
  exact hR { s' with heap:=h',toks:=tk } H' ws m (ex.trans ex₁) hnC hC4 (hD'.ups ex₁.ups) hHD' hrl (by lia)
end
end Mine
namespace Mine
open PySem PyProof.Rows
theorem neA {a b:Nat} (h:a≠b):a≠b:=h
theorem leA {a b:Nat} (h:a≤b):a≤b:=h
theorem ltA {a b:Nat} (h:a<b):a<b:=h
section
variable {prog:Program} {w:World} {Γ:Ct} {B:Bl}
theorem compOk_parts {sc:Scope} (h:compOk sc=true):sc.kind=.function∧(∀ x∈sc.names,x.2≠.free)∧(∀ x∈sc.names,x.2≠.cell)∧∀ x∈sc.names,x.2=.local→sc.names.lookup x.1=some .local:=by
 unfold compOk at h
 simp only [Bool.and_eq_true,beq_iff_eq,List.all_eq_true,Bool.or_eq_true,bne_iff_ne,ne_eq] at h
 obtain ⟨h1,h2⟩:=h
 refine ⟨h1,fun x hx q=>?_,fun x hx q=>?_,fun x hx q=>?_⟩
 ·rcases (h2 x hx).1 with z | z <;> rw [q] at z <;> cases z
 ·rcases (h2 x hx).1 with z | z <;> rw [q] at z <;> cases z
 ·rcases (h2 x hx).2 with z | z
  ·exact absurd q z
  ·exact z
theorem comp_run {d:Nat} (hB:B.Ok d) {elt iter:Expr} {x:Str} {xp pos:Pos} {sc:Scope} {f:List Slot→Res PV} (hc:compOk sc=true) (hx:sc.names.lookup x=some .local)
  (helt:∀ C,SE prog w Γ (B.comp sc x C) elt f) {H:Heap} {ρ:List Slot} {s:Shared} (hs:St Γ B H ρ s) {p:PV} {v:Value} {l:List PV} (hr:Rep H p v) (hl:itemsP p=.ok l)
  {E:Value→Shared→Prop} {K:Value→Env→Result→Shared→Prop}
  (hR:match mapR (fun v=>f [.val v]) l with
   | .ok ps=>∀ D C s' H' ws m,s.heap.get? C=none→s.heap.get? D=none→D≠C→B.env.locals<C→Ext H s H' s'→s'.heap.Ns C m→H'.get? C=none→OwnAt s'.heap D ws→H'.get? D=none→RepL H' ps ws→ps.length≤1048576 →
     K (.ref D) (compEnvOf sc C B.env) (.ok .next) s'
   | .exc=>∀ e C D s' H' a0 L m,s.heap.get? C=none→Ext H s H' s'→s'.heap.Ns C m→H'.get? C=none→B.fenv.frame=some L→Heap.HeldW H' (B.fenv::B.outer) e VE a0 L s'.heap →
     K (.ref D) (compEnvOf sc C B.env) (.error (.ref e)) s'
   | .stuck=>False) :
  wpAny (model prog w) B.A (pyIter v) (fun it s₂=>wpAny (model prog w) B.A (newList []) (fun acc s₃=>wpAny (model prog w) B.A (newFunctionEnv sc B.env.globals [] [] B.env.qual none .none (some B.env)) (fun cenv s₄ =>
   codeAny (model prog w) B.A (.compStart (.ListComp elt [⟨.Name x xp,iter,[],0⟩] sc pos) 0 it acc { cenv with scope:=sc }) (K acc cenv) s₄) E s₃) E s₂) E s:=by
 obtain ⟨hk,hfree,hcell,hnames⟩:=compOk_parts hc
 refine iter_of hB.hand hs.stays hr hl fun s₂ Sx e₂ h1 h2 it h0=>?_
 have hs₂:=hs.ext e₂
 obtain ⟨fp,P,W,hfp,hP,hobj⟩:=id it
 obtain ⟨oI,hoI,_⟩:=hobj 0 _ h0
 refine wpAny_newObj_type ?_ (by show ([]:List Value).toArray.size≤sizeLine; exact Nat.zero_le _)
 refine wpAny_newFunctionEnv hcell (fun _ h=>nomatch h) (fun h' hns hsb=>?_) hk
 have hszp : (s₂.heap.push ({ cls := .type "list",data := .seq ([] : List Value).toArray } : Obj)).objs.size = s₂.heap.objs.size + 1 := Heap.size_push _ _
 generalize hD:s₂.heap.objs.size=D at *
 have hC : (s₂.heap.push ({ cls := .type "list",data := .seq ([] : List Value).toArray } : Obj)).objs.size = D + 1 := hszp
 rw [show ({ s₂ with heap := s₂.heap.push { cls := .type "list",data := .seq ([] : List Value).toArray } } : Shared).heap.objs.size = D + 1 from hC] at hns hsb ⊢
 have ID:@LT.lt Nat _ s.heap.objs.size D:=by rw [← hD]; exact Heap.lt_size hoI
 have kp:∀ b o,s₂.heap.get? b=some o→h'.get? b=some o:=fun b o e=>by
  have hb:@LT.lt Nat _ b D:=by rw [← hD]; exact Heap.lt_size e
  exact (hsb.2 b (neA (by lia))).trans (Heap.get?_push_of_some _ (Heap.get?_push_of_some _ e))
 have ex:Ext H s₂ H { s₂ with heap:=h',toks:=s₂.toks+0 }:=.keeps hs₂.stays kp
 have exs:Ext H s H { s₂ with heap:=h',toks:=s₂.toks+0 }:=e₂.trans ex
 have hsize:∀ b,s.heap.objs.size≤b→s.heap.get? b=none:=fun b hb=>none_of_size hb
 have hH:∀ b,D≤b→H.get? b=none:=fun b hb=>none_of_stays hs₂.stays (none_of_size (by rw [hD]; exact hb))
 have hloc:@LT.lt Nat _ B.env.locals s.heap.objs.size:=by obtain ⟨m,_,hn,_⟩:=hs.loc; exact hn.lt
 have hN:@LE.le Nat _ B.N₀ B.env.locals:=by obtain ⟨_,_,_,_,hN,_⟩:=hs.loc; exact hN
 have hOwn : OwnAt h' D [] := ⟨{ cls := .type "list",data := .seq ([] : List Value).toArray },0,(hsb.2 D (neA (by lia))).trans (Heap.get?_push_of_some _ (by
  have := Heap.get?_push_size s₂.heap (o := { cls := .type "list",data := .seq ([] : List Value).toArray }) rfl
  rw [hD] at this; exact this)),rfl,rfl,rfl⟩
 have main:codeAny (model prog w) B.A (.compLoop (.ListComp elt [⟨.Name x xp,iter,[],0⟩] sc pos) 0 (.ref s.heap.objs.size) (.ref D) (B.comp sc x (D+1)).env) (K (.ref D) (compEnvOf sc (D+1) B.env)) { s₂ with heap:=h',toks:=s₂.toks+0 }:=by
  have hll:l.length≤1048576:=by
   cases p <;> simp only [itemsP] at hl <;> first | (cases hl; done) | skip
   ·cases hl; rw [Rep] at hr; obtain ⟨_,_,_,_,hz⟩:=hr; simpa using hz
   ·cases hl; rw [Rep] at hr; obtain ⟨_,_,_,_,hz,_⟩:=hr; exact hz
   ·cases hl; rw [Rep] at hr; obtain ⟨_,_,_,_,hz,_⟩:=hr; exact hz
  refine comp_loop hB hk hx (helt (D+1)) hll (s₀:=s) (hsize _ (Nat.le_refl _)) (stays_trans hs.base hs.stays) (neA (by lia)) (neA (by lia)) (neA (by lia)) (hsize _ (leA (by lia))) (hsize _ (leA (by lia)))
   exs ⟨hs.base,ex.stays,frames_ext hs₂.frames ex,fun _=>none,fun _=>0,hns,hH (D+1) (leA (by lia)),(leA (by lia):B.N₀≤D+1),fun i y hy=>?_,fun a b l l' _ ha=>?_⟩ it (W.frame 0 s₂.heap h' h0 fun b _ o e=>kp b o e) hOwn (hH _ (Nat.le_refl _)) h1 ?_
  ·cases i with
   | zero=>trivial
   | succ i=>simp [Bl.comp] at hy
  ·cases a with
   | zero=>cases ha
   | succ a=>cases ha
  ·cases hm:mapR (fun v=>f [.val v]) l with
   | ok ps =>
    rw [hm] at hR
    exact fun s' H' ws m a b c e g i j=>hR D (D+1) s' H' ws m (hsize _ (leA (by lia))) (hsize _ (leA (by lia))) (neA (by lia)) (ltA (by lia)) a b c e g i j
   | exc =>
    rw [hm] at hR
    exact fun e s' H' a0 L m a b c g i=>hR e (D+1) D s' H' a0 L m (hsize _ (leA (by lia))) a b c g i
   | stuck=>rw [hm] at hR; exact hR
 refine codeAny_compStart_list main (W.self 0 _ _ _ ?_ main)
 exact W.frame 0 s₂.heap h' h0 fun b _ o e=>kp b o e
theorem comp_data {H H':Heap} {s s':Shared} {D C:Addr} {ps:List PV} {ws:List Value} (e:Ext H s H' s') {h'':Heap} (hC:H'.get? C=none) (hC₀:s.heap.get? C=none) (hD₀:s.heap.get? D=none) (hDC:D≠C) (hsb:∀ b,b≠C→h''.get? b=s'.heap.get? b)
  (hO:OwnAt s'.heap D ws) (hr:RepL H' ps ws) (hz:ps.length≤1048576):∃ H'',Ext H s H'' { s' with heap:=h'' }∧Rep H'' (.list ps) (.ref D)∧H''.get? C=none∧H'.StaysIn H'':=by
 obtain ⟨o,n,a1,a2,a3,a4⟩:=hO
 have hst:H'.StaysIn h'':=fun b o e'=>(hsb b (fun q=>by rw [q,hC] at e'; cases e')).trans (e.stays b o e')
 obtain ⟨H'',k1,k2,k3,k4⟩:=add_exists hst ((hsb D hDC).trans a1)
 refine ⟨H'',⟨stays_trans e.grow k1,fun b o' q nf z=>?_,k2,fun b o' q nf=>?_,e.same⟩,?_,?_,k1⟩
 ·rw [k4 b (fun y=>by rw [y,hD₀] at q; cases q)]; exact e.old b o' q nf z
 ·obtain ⟨sl,q'⟩:=e.ups b o' q nf
  exact ⟨sl,(hsb b (fun y=>by rw [y,hC₀] at q; cases q)).trans q'⟩
 ·rw [Rep]
  exact ⟨D,ws,rfl,⟨o,k3,a2,n,a4⟩,hz,hr.mono k1⟩
 ·rw [k4 C (Ne.symm hDC)]; exact hC
theorem frames_but {H H' h'':Heap} {s s':Shared} {C:Addr} {l:List Env} (x:s.heap.FunFrames H l) (e:Ext H s H' s') (hC₀:s.heap.get? C=none) (hsb:∀ b,b≠C→h''.get? b=s'.heap.get? b):h''.FunFrames H' l:=by
 have y:s.heap.FunFrames H' l:=funFrames_base' x fun b o ho hd hn=>e.old b o ho hd hn
 refine y.of_keeps fun b o ho hn=>?_
 obtain ⟨sl,q⟩:=e.ups b o ho hn
 exact ⟨_,(hsb b (fun z=>by rw [z,hC₀] at ho; cases ho)).trans q,rfl⟩
theorem comp_pass {d:Nat} (hB:B.Ok d) {sc:Scope} {C e L:Addr} {a0:Value} {H':Heap} {s':Shared} {h':Heap} {m:Str→Option Value} (hf:B.fenv.frame=some L) (hC:H'.get? C=none) (hn:s'.heap.Ns C m) (hsb:Heap.SameBut C s'.heap h') (hfr:h'.FunFrames H' (B.fenv::B.outer))
  (held:Heap.HeldW H' (B.fenv::B.outer) e VE a0 L s'.heap) {α:Type} {Q:α→Shared→Prop} {E:Value→Shared→Prop} (cenv:Env) (hce:cenv.frame=B.env.frame)
  (hE:∀ h'',Flown H' (B.fenv::B.outer) e h''→h'.UpToSlots h''→E (.ref e) { s' with heap:=h'' }) :
  wpAny (model prog w) B.A (PySem.passOn "comprehension.variables-let-go" (.ref e) cenv : Sem α) Q E { s' with heap := h' } := by
 have held':Heap.HeldW H' (B.fenv::B.outer) e VE a0 L h':=held_set held hC hn hfr hsb
 unfold PySem.passOn
 obtain ⟨oe,vs,T,oT,ts,he,hcls,hd,h1,r⟩:=id held'.2.2.2
 refine wpAny_bind (wpAny_field he hd h1 ?_)
 rw [if_neg (show ¬ ((Value.ref T == Value.none)=true) from by simp),hce,hB.fr,hf]
 refine wpAny_bind (setFlight_held (s:={ s' with heap:=h' }) held' fun h'' z u=>wpAny_throw (hE h'' ?_ u))
 exact held_flown (s:={ s' with heap:=h'' }) hf z
end
end Mine
namespace Mine
open PySem PyProof.Rows
section
variable {prog:Program} {w:World} {Γ:Ct} {B:Bl}
theorem se_comp {d:Nat} (hB:B.Ok d) {elt iter:Expr} {x:Str} {xp pos:Pos} {sc:Scope} {f g:List Slot→Res PV} (hc:compOk sc=true) (hx:sc.names.lookup x=some .local) (hns:notSet iter=true)
  (helt:∀ C,SE prog w Γ (B.comp sc x C) elt f) (hit:SE prog w Γ B iter g) :
  SE prog w Γ B (.ListComp elt [⟨.Name x xp,iter,[],0⟩] sc pos) (fun ρ=>(g ρ).bind fun y=>(itemsP y).bind fun l=>(mapR (fun v=>f [.val v]) l).bind fun vs=>.ok (.list vs)):=by
 intro H ρ s Q E hs hp
 obtain ⟨hk,hfree,hcell,hnames⟩:=compOk_parts hc
 refine wpAny_ListComp hfree hk hnames (hit H ρ s _ _ hs (Post.bind hp fun p v s₁ H₁ _ e₁ rr hp₁=>?_)) (folded_not hns)
 cases hl:itemsP p with
 | stuck=>rw [hl] at hp₁; exact hp₁.elim
 | exc=>cases p <;> cases hl
 | ok l =>
  rw [hl] at hp₁
  have hs₁:=hs.ext e₁
  refine comp_run hB hc hx helt hs₁ rr hl (K:=fun acc cenv r s'=>∃ m,s'.heap.Ns cenv.locals m∧∀ h',Heap.SameBut cenv.locals s'.heap h' →
      match r with | .ok _ => Q acc { s' with heap := h' } | .error x => wpAny (model prog w) B.A (PySem.passOn "comprehension.variables-let-go" x { cenv with scope := sc }) Q E { s' with heap := h' }) ?_
  cases hm:mapR (fun v=>f [.val v]) l with
  | stuck=>rw [show ((Res.ok l).bind fun l=>(mapR (fun v=>f [.val v]) l).bind fun vs=>.ok (.list vs))=(Res.stuck:Res PV) from by show (mapR (fun v=>f [.val v]) l).bind _=_; rw [hm]; rfl] at hp₁; exact hp₁.elim
  | ok ps =>
   rw [show ((Res.ok l).bind fun l=>(mapR (fun v=>f [.val v]) l).bind fun vs=>.ok (.list vs))=(Res.ok (.list ps):Res PV) from by show (mapR (fun v=>f [.val v]) l).bind _=_; rw [hm]; rfl] at hp₁
   intro D C s' H' ws m hC₀ hD₀ hDC _ ex hn hC hO hHD hrl hz
   refine ⟨m,hn,fun h' hsb=>?_⟩
   obtain ⟨H'',e',r',_⟩:=comp_data ex hC hC₀ hD₀ hDC hsb.2 hO hrl hz
   exact hp₁.ok (s':={ s' with heap:=h' }) e' r'
  | exc =>
   rw [show ((Res.ok l).bind fun l=>(mapR (fun v=>f [.val v]) l).bind fun vs=>.ok (.list vs))=(Res.exc:Res PV) from by show (mapR (fun v=>f [.val v]) l).bind _=_; rw [hm]; rfl] at hp₁
   intro e C D s' H' a0 L m hC₀ ex hn hC hf held
   refine ⟨m,hn,fun h' hsb=>?_⟩
   refine comp_pass hB (sc:=sc) hf hC hn hsb (frames_but hs₁.frames ex hC₀ hsb.2) held _ rfl fun h'' fl u=>hp₁ e { s' with heap:=h'' } H' ⟨ex.grow,ex.old,fl.stays,fun b o q nf=>?_,ex.same⟩ fl
   obtain ⟨sl,q'⟩:=ex.ups b o q nf
   have hbC:b≠C:=fun y=>by rw [y,hC₀] at q; cases q
   obtain ⟨sl',q''⟩:=u b _ ((hsb.2 b hbC).trans q') nf
   exact ⟨sl',q''⟩
theorem st_but {d:Nat} (hB:B.Ok d) (hfn:B.fenv.frame=some B.env.locals) {H:Heap} {ρ:List Slot} {s:Shared} (hs:St Γ B H ρ s) {C:Addr} {m₀:Str→Option Value} (hn₀:s.heap.Ns C m₀) (hC:H.get? C=none) (hlt:B.env.locals<C)
  {h':Heap} (hsb:Heap.SameBut C s.heap h'):St Γ B H ρ { s with heap:=h' }:=by
 obtain ⟨m,oa,hn,hl,hN,hsl,hdd⟩:=hs.loc
 have hne:B.env.locals≠C:=Nat.ne_of_lt hlt
 refine ⟨hs.base,fun b o e=>(hsb.2 b (fun q=>by rw [q,hC] at e; cases e)).trans (hs.stays b o e),?_,m,oa,hn.sameBut hsb hne,hl,hN,fun i x hx=>?_,hdd⟩
 ·have:=hs.frames
  have low:∀ v∈B.fenv::B.outer,∀ L,v.frame=some L→L≠C:=fun v hv L hL=>by
   rcases List.mem_cons.mp hv with rfl | hv
   ·rw [hfn] at hL; obtain rfl:=Option.some.inj hL; exact hne
   ·exact Nat.ne_of_lt (Nat.lt_trans (Nat.lt_of_lt_of_le (hB.low v hv L hL) hN) hlt)
  revert this low
  generalize B.fenv::B.outer=l
  intro this low
  induction l with
  | nil=>trivial
  | cons v r ih =>
   obtain ⟨hk',⟨L',o₁,hf,hnn,ho₁,hd₁⟩,hr⟩:=this
   exact ⟨hk',⟨L',o₁,hf,hnn,(hsb.2 L' (low v (.head _) L' hf)).trans ho₁,hd₁⟩,ih hr fun u hu=>low u (.tail _ hu)⟩
 ·have:=hsl i x hx
  revert this
  cases getS ρ i with
  | unset=>exact fun h=>h
  | val p=>exact fun h=>h
  | own l =>
   intro ⟨hz,ws,a,b,c,d,e⟩
   obtain ⟨o,n,b1,b2,b3,b4⟩:=b
   refine ⟨hz,ws,a,⟨o,n,(hsb.2 _ fun q=>?_).trans b1,b2,b3,b4⟩,c,d,e⟩
   obtain ⟨o',_,_,ho',hd',_⟩:=hn₀
   rw [q,ho'] at b1; obtain rfl:=Option.some.inj b1
   rw [b4] at hd'; cases hd'
theorem ss_assign_comp {d:Nat} (hB:B.Ok d) (hfn:B.fenv.frame=some B.env.locals) {y:Str} {yp spos:Pos} {i:Nat} (hy:B.vs[i]?=some y) (hyk:B.env.kindOf y=some .local)
  {elt iter:Expr} {x:Str} {xp pos:Pos} {sc:Scope} {f g:List Slot→Res PV} (hc:compOk sc=true) (hx:sc.names.lookup x=some .local) (hns:notSet iter=true) (hln:compLine y yp (.ListComp elt [⟨.Name x xp,iter,[],0⟩] sc pos)=true)
  (helt:∀ C,SE prog w Γ (B.comp sc x C) elt f) (hit:SE prog w Γ B iter g) :
  SS prog w Γ B (.Assign [.Name y yp] (.ListComp elt [⟨.Name x xp,iter,[],0⟩] sc pos) spos)
   (fun ρ=>((g ρ).bind fun y=>(itemsP y).bind fun l=>(mapR (fun v=>f [.val v]) l).bind fun vs=>.ok (.list vs)).bind fun v=>.ok (.next,putS ρ i (.val v))):=by
 intro H ρ s Q E hs hp
 obtain ⟨hk,hfree,hcell,hnames⟩:=compOk_parts hc
 have hsw:swapsWith (.ListComp elt [⟨.Name x xp,iter,[],0⟩] sc pos) (some (.Name y yp)) spos.line B.env=pure true:=by
  simp only [compLine,onListComp,Bool.and_eq_true,beq_iff_eq,Bool.not_eq_true'] at hln
  show (pure (B.env.blockKind == .function && B.env.kindOf y == some .local && yp.line == pos.line && !(sc.names.any fun q=>q.1 == y && (q.2 == .local || q.2 == .cell))):Sem Bool)=pure true
  rw [kind_fn hB.kind,hyk,hln.1,hln.2]
  simp
 rw [exec_Assign_Name_used _ _ _ _ hsw]
 refine wpAny_bind (wpAny_standAt (wpAny_bind ?_))
 show wpAny _ _ (do let _ ← comprehension (.ListComp elt [⟨.Name x xp,iter,[],0⟩] sc pos) sc B.env iter.pos (newList []) false (eval iter B.env) (some (assign (.Name y yp) B.env))) _ _ _
 refine wpAny_bind (wpAny_comprehension_use rfl (folded_not hns) hfree hk hnames ?_)
 dsimp only at hp
 rw [bind_assoc'] at hp
 refine hit H ρ s _ _ hs (PostS.bind hp fun p v s₁ H₁ _ e₁ rr hp₁=>?_)
 cases hl:itemsP p with
 | stuck=>rw [hl] at hp₁; exact hp₁.elim
 | exc=>cases p <;> cases hl
 | ok l =>
  rw [hl] at hp₁
  have hs₁:=hs.ext e₁
  refine comp_run hB hc hx helt hs₁ rr hl (K:=fun acc cenv r s'=>match r with
     | .ok _=>wpAny (model prog w) B.A (assign (.Name y yp) B.env acc) (fun _ s''=>∃ m,s''.heap.Ns cenv.locals m∧∀ h',Heap.SameBut cenv.locals s''.heap h'→wpAny (model prog w) B.A (pure ()) (fun _ s'=>wpAny (model prog w) B.A (pure .next) Q E s') E { s'' with heap:=h' }) E s'
     | .error x => ∃ m,s'.heap.Ns cenv.locals m ∧ ∀ h',Heap.SameBut cenv.locals s'.heap h' → wpAny (model prog w) B.A (PySem.passOn "comprehension.variables-let-go" x { cenv with scope := sc }) _ E { s' with heap := h' }) ?_
  cases hm:mapR (fun v=>f [.val v]) l with
  | stuck =>
   have hp₁:PostS Γ B H₁ s₁ (((mapR (fun v=>f [.val v]) l).bind fun vs=>.ok (.list vs)).bind fun v=>.ok (.next,putS ρ i (.val v))) Q E:=hp₁
   rw [hm] at hp₁; exact hp₁.elim
  | ok ps =>
   have hp₁:PostS Γ B H₁ s₁ (((mapR (fun v=>f [.val v]) l).bind fun vs=>.ok (.list vs)).bind fun v=>.ok (.next,putS ρ i (.val v))) Q E:=hp₁
   rw [hm] at hp₁
   intro D C s' H' ws m hC₀ hD₀ hDC hlt ex hn hC hO hHD hrl hz
   obtain ⟨H'',e',r',hC'',_⟩:=comp_data ex hC hC₀ hD₀ hDC (h'':=s'.heap) (fun _ _=>rfl) hO hrl hz
   have hs':=hs₁.ext e'
   refine wpAny_assign_Name (store_var2 hB hs' hy hyk r' fun s'' hs'' ex'' hsb=>?_)
   have hne:C≠B.env.locals:=Nat.ne_of_gt hlt
   have hn'':s''.heap.Ns C m:=hn.sameBut hsb hne
   refine ⟨m,hn'',fun h' hsb'=>wpAny_pure (wpAny_pure ?_)⟩
   have hfin:=st_but hB hfn hs'' hn'' hC'' hlt hsb'
   refine hp₁ .next { s'' with heap:=h' } H'' ?_ hfin rfl
   have e2:=e'.toS.trans ex''
   refine ⟨e2.grow,e2.old,hfin.stays,fun b o hb q nf=>?_,e2.same⟩
   obtain ⟨sl,q'⟩:=e2.ups b o hb q nf
   have hbC:b≠C:=fun z=>by rw [z,hC₀] at q; cases q
   exact ⟨sl,(hsb'.2 b hbC).trans q'⟩
  | exc =>
   have hp₁:PostS Γ B H₁ s₁ (((mapR (fun v=>f [.val v]) l).bind fun vs=>.ok (.list vs)).bind fun v=>.ok (.next,putS ρ i (.val v))) Q E:=hp₁
   rw [hm] at hp₁
   intro e C D s' H' a0 L m hC₀ ex hn hC hf held
   refine ⟨m,hn,fun h' hsb=>?_⟩
   refine comp_pass hB (sc:=sc) hf hC hn hsb (frames_but hs₁.frames ex hC₀ hsb.2) held _ rfl fun h'' fl u=>hp₁ e { s' with heap:=h'' } H' ?_ fl
   refine ⟨ex.grow,fun b o _ q nf z=>ex.old b o q nf z,fl.stays,fun b o _ q nf=>?_,ex.same⟩
   obtain ⟨sl,q'⟩:=ex.ups b o q nf
   have hbC:b≠C:=fun y=>by rw [y,hC₀] at q; cases q
   obtain ⟨sl',q''⟩:=u b _ ((hsb.2 b hbC).trans q') nf
   exact ⟨sl',q''⟩
end
end Mine
namespace Mine
open PySem
section
variable {prog:Program} {w:World} {Γ:Ct} {B:Bl}
theorem rep_int {H:Heap} {i:Int} {v:Value} (h:Rep H (.int i) v):∃ t,v=.int i t:=by rw [Rep] at h; exact h
theorem rep_bytes {H:Heap} {l:List Int} {v:Value} (h:Rep H (.bytes l) v):∃ b t,v=.bytes b t∧bInt b=l∧l.length≤1048576:=by rw [Rep] at h; exact h
theorem rep_tuple {H:Heap} {l:List PV} {v:Value} (h:Rep H (.tuple l) v):∃ a ws,v=.ref a∧H.IsTuple a ws.toArray∧l.length≤1048576∧RepL H l ws:=by rw [Rep] at h; exact h
theorem rep_list {H:Heap} {l:List PV} {v:Value} (h:Rep H (.list l) v):∃ a ws,v=.ref a∧H.IsList a ws.toArray∧l.length≤1048576∧RepL H l ws:=by rw [Rep] at h; exact h
theorem rep_flt {H:Heap} {x:UInt64} {v:Value} (h:Rep H (.flt x) v):∃ t,v=.float x t∧t≠0:=by rw [Rep] at h; exact h
theorem isList_up {H h:Heap} (s:H.StaysIn h) {a:Addr} {l:Array Value} (x:H.IsList a l):h.IsList a l:=let ⟨o,e,c,d⟩:=x; ⟨o,s _ _ e,c,d⟩
theorem isTuple_up {H h:Heap} (s:H.StaysIn h) {a:Addr} {l:Array Value} (x:H.IsTuple a l):h.IsTuple a l:=let ⟨o,e,c,d⟩:=x; ⟨o,s _ _ e,c,d⟩
theorem bInt_length (b:Array UInt8):(bInt b).length=b.size:=by simp [bInt]
theorem bInt_append (a b:Array UInt8):bInt (a++b)=bInt a++bInt b:=by simp [bInt]
theorem repInt (H:Heap) (i:Int) (t:Tok):Rep H (.int i) (.int i t):=by rw [Rep]; exact ⟨t,rfl⟩
theorem repBytes (H:Heap) {b:Array UInt8} (t:Tok) {l:List Int} (e:bInt b=l) (hz:l.length≤lim):Rep H (.bytes l) (.bytes b t):=by rw [Rep]; exact ⟨b,t,rfl,e,hz⟩
theorem repBool (H:Heap) (b:Bool):Rep H (.bool b) (.bool b):=by rw [Rep]
theorem made {H:Heap} {s:Shared} (hs:H.StaysIn s.heap) {T:String} {ws:List Value}:∃ H',(∀ s':Shared,(s'.heap=s.heap.push { cls:=Value.type T,data:=Data.seq ws.toArray }∧s'.os=s.os∧s'.gens=s.gens)→Ext H s H' s')∧H'.get? s.heap.objs.size=some { cls:=Value.type T,data:=Data.seq ws.toArray } :=
 Ext.alloc hs _ rfl
theorem add_ll {H:Heap} {s:Shared} {A:Around} {fr:List Env} {l m:List PV} {a b:Value} {Q E:Value→Shared→Prop} (hs:H.StaysIn s.heap) (ra:Rep H (.list l) a) (rb:Rep H (.list m) b)
  (hz:l.length+m.length≤lim) (hp:Post Rep fr H s (.ok (.list (l++m))) Q E):wpAny (model prog w) A (binaryOp .Add a b) Q E s:=by
 obtain ⟨p,vs,rfl,hl,_,hr⟩:=rep_list ra
 obtain ⟨q,us,rfl,hl',_,hr'⟩:=rep_list rb
 obtain ⟨⟨cls,dd,data,sl⟩,ho,hc,n,hd⟩:=isList_up hs hl
 obtain ⟨⟨cls2,dd2,data2,sl2⟩,ho2,hc2,n2,hd2⟩:=isList_up hs hl'
 simp only at hc hd hc2 hd2
 subst hc hd hc2 hd2
 have e:vs.toArray++us.toArray=(vs++us).toArray:=by simp
 have hsz:vs.length+us.length≤sizeLine:=by rw [hr.length,hr'.length]; exact lim_line hz
 refine PySem.concat_meets ⟨_,ho,rfl⟩ ⟨_,ho2,rfl⟩ PySem.noFill_list_add PySem.seq_list_add PySem.F.slot_list_add PySem.F.entry_list_add (PySem.F.args_list_add_2 _ _) (PyProof.Rows.list_addW p q vs.toArray us.toArray n n2 dd dd2 sl sl2 (by simpa using hsz)) ⟨ho,ho2,?_⟩
 rw [e]
 obtain ⟨H',ex,hg⟩ := made hs (T := "list") (ws := vs ++ us)
 refine hp.ok (ex _ ⟨rfl,rfl,rfl⟩) ?_
 rw [Rep]
 exact ⟨_,_,rfl,⟨_,hg,rfl,_,rfl⟩,by rw [List.length_append]; exact hz,(hr.append hr').mono (ex { s with heap:=s.heap.push _ } ⟨rfl,rfl,rfl⟩).grow⟩
theorem add_tt {H:Heap} {s:Shared} {A:Around} {fr:List Env} {l m:List PV} {a b:Value} {Q E:Value→Shared→Prop} (hs:H.StaysIn s.heap) (ra:Rep H (.tuple l) a) (rb:Rep H (.tuple m) b)
  (hz:l.length+m.length≤lim) (hp:Post Rep fr H s (.ok (.tuple (l++m))) Q E):wpAny (model prog w) A (binaryOp .Add a b) Q E s:=by
 obtain ⟨p,vs,rfl,hl,_,hr⟩:=rep_tuple ra
 obtain ⟨q,us,rfl,hl',_,hr'⟩:=rep_tuple rb
 obtain ⟨⟨cls,dd,data,sl⟩,ho,hc,n,hd⟩:=isTuple_up hs hl
 obtain ⟨⟨cls2,dd2,data2,sl2⟩,ho2,hc2,n2,hd2⟩:=isTuple_up hs hl'
 simp only at hc hd hc2 hd2
 subst hc hd hc2 hd2
 have e:vs.toArray++us.toArray=(vs++us).toArray:=by simp
 have hsz:vs.length+us.length≤sizeLine:=by rw [hr.length,hr'.length]; exact lim_line hz
 have hA := fun {S} => @PySem.concat_meets prog w A E s "tuple" "tuple.__add__" Builtin.«tuple.__add__» (.ref p) (.ref q) S Q ⟨_,ho,rfl⟩ ⟨_,ho2,rfl⟩ PySem.noFill_tuple_add PySem.seq_tuple_add PySem.F.slot_tuple_add PySem.F.entry_tuple_add (PySem.F.args_tuple_add_2 _ _)
 by_cases h1:vs.toArray.isEmpty=true
 ·refine hA (PyProof.Rows.tuple_addW0 p q vs.toArray us.toArray n n2 dd dd2 sl sl2 h1) ⟨ho,ho2,?_⟩
  have h1':vs=[]:=by simpa using h1
  subst h1'
  have:l=[]:=List.eq_nil_of_length_eq_zero (by rw [← hr.length]; rfl)
  subst this
  exact hp.ok (.refl hs) rb
 ·by_cases h2:us.toArray.isEmpty=true
  ·refine hA (PyProof.Rows.tuple_addW1 p q vs.toArray us.toArray n n2 dd dd2 sl sl2 h1 h2) ⟨ho,ho2,?_⟩
   have h2':us=[]:=by simpa using h2
   subst h2'
   have:m=[]:=List.eq_nil_of_length_eq_zero (by rw [← hr'.length]; rfl)
   subst this
   rw [List.append_nil] at hp
   exact hp.ok (.refl hs) ra
  ·refine hA (PyProof.Rows.tuple_addW2 p q vs.toArray us.toArray n n2 dd dd2 sl sl2 h1 h2 (by simpa using hsz)) ⟨ho,ho2,?_⟩
   rw [e]
   obtain ⟨H',ex,hg⟩ := made hs (T := "tuple") (ws := vs ++ us)
   refine hp.ok (ex _ ⟨rfl,rfl,rfl⟩) ?_
   rw [Rep]
   exact ⟨_,_,rfl,⟨_,hg,rfl,_,rfl⟩,by rw [List.length_append]; exact hz,(hr.append hr').mono (ex { s with heap:=s.heap.push _ } ⟨rfl,rfl,rfl⟩).grow⟩
theorem mul_bi {H:Heap} {s:Shared} {A:Around} {fr:List Env} {l:List Int} {n:Int} {a b:Value} {Q E:Value→Shared→Prop} (hs:H.StaysIn s.heap) (ra:Rep H (.bytes l) a) (rb:Rep H (.int n) b)
  (h0:l≠[]) (h16:l.length≤16) (h1:-(lim:Int)≤n) (h2:n≤lim) (hz:l.length * n.toNat≤lim) (hp:Post Rep fr H s (.ok (.bytes (List.replicate n.toNat l).flatten)) Q E) :
  wpAny (model prog w) A (binaryOp .Mult a b) Q E s:=by
 obtain ⟨c,t,rfl,hc,_⟩:=rep_bytes ra
 obtain ⟨u,rfl⟩:=rep_int rb
 obtain ⟨cl⟩:=c
 have hl:cl.length=l.length:=by rw [← hc]; simp [bInt]
 have hb:cl≠[]:=fun e=>h0 (by subst e; rw [← hc]; rfl)
 refine PySem.W.bytes_mul_any hb (by simpa [lim] using h1) (by simpa [lim] using h2) (by lia) fun t' k=>hp.ok (.refl hs) (repBytes _ _ ?_ ?_)
 ·subst hc
  simp [bInt]
 ·simpa [Nat.mul_comm] using hz
theorem so_bin {op:Operator} {o:BOp} (ho:bopOk op o=true):∀ H ρ s x y a b,St Γ B H ρ s→Rep H x a→Rep H y b→SO prog w B (binaryOp op a b) H s (binP o x y):=by
 intro H ρ s x y a b hst ra rb Q E hp
 have hs:=hst.stays
 cases of_decide_eq_true ho
 let Z (r:Res PV):Prop:=Post Rep (B.fenv::B.outer) H s r Q E
 have hz:Z .stuck→False:=id
 cases o with
 | add =>
  let G (x y:PV):Prop:=Rep H x a→Rep H y b→wpAny (model prog w) B.A (binaryOp .Add a b) Q E s
  cases x with
  | int i=>exact onI_k (Z:=Z) (P:=G (.int i)) hz hp (fun j hp ra rb=>by
    obtain ⟨t,rfl⟩:=ra
    obtain ⟨u,rfl⟩:=rb
    exact P.add_int (hp.ok (.refl hs) (repInt _ _ _))) ra rb
  | bytes l=>exact onB_k (Z:=Z) (P:=G (.bytes l)) hz hp (fun m hp ra rb=>when_k (Z:=Z) hz hp fun hz hp=>by
    obtain ⟨b1,t,rfl,h1,h1'⟩:=ra
    obtain ⟨b2,u,rfl,h2,h2'⟩:=rb
    have e1:=bInt_length b1
    have e2:=bInt_length b2
    rw [h1] at e1; rw [h2] at e2
    refine PySem.W.KBy.add_bytes (by unfold lim at hz; lia) fun t' k=>hp.ok (.refl hs) (repBytes _ _ ?_ (by rw [List.length_append]; exact hz))
    rw [bInt_append,h1,h2]) ra rb
  | tuple l=>exact onT_k (Z:=Z) (P:=G (.tuple l)) hz hp (fun m hp ra rb=>when_k (Z:=Z) hz hp fun hz hp=>add_tt hs ra rb hz hp) ra rb
  | list l=>exact onL_k (Z:=Z) (P:=G (.list l)) hz hp (fun m hp ra rb=>when_k (Z:=Z) hz hp fun hz hp=>add_ll hs ra rb hz hp) ra rb
  | _=>exact (hz hp).elim
 | sub =>
  exact onI_k (Z:=Z) (P:=fun x=>Rep H x a→wpAny (model prog w) B.A (binaryOp .Sub a b) Q E s) hz hp (fun i hp ra=>onI_k (Z:=Z) (P:=fun y=>Rep H y b→wpAny (model prog w) B.A (binaryOp .Sub a b) Q E s) hz hp (fun j hp rb=>by
   obtain ⟨t,rfl⟩:=ra
   obtain ⟨u,rfl⟩:=rb
   exact P.sub_int (hp.ok (.refl hs) (repInt _ _ _))) rb) ra
 | mul =>
  let G (x y:PV):Prop:=Rep H x a→Rep H y b→wpAny (model prog w) B.A (binaryOp .Mult a b) Q E s
  cases x with
  | int i=>exact onI_k (Z:=Z) (P:=G (.int i)) hz hp (fun j hp ra rb=>when_k (Z:=Z) hz hp fun hz hp=>by
    obtain ⟨t,rfl⟩:=ra
    obtain ⟨u,rfl⟩:=rb
    exact P.mul_int (hp.ok (.refl hs) (repInt _ _ _)) (IntMulOk.of_left (intBits_le_64 (by lia) (by lia)))) ra rb
  | bytes l=>exact onI_k (Z:=Z) (P:=G (.bytes l)) hz hp (fun n hp ra rb=>when_k (Z:=Z) hz hp fun hz hp=>mul_bi hs ra rb hz.1 hz.2.1 hz.2.2.1 hz.2.2.2.1 hz.2.2.2.2 hp) ra rb
  | _=>exact (hz hp).elim
 | fdiv =>
  exact onI_k (Z:=Z) (P:=fun x=>Rep H x a→wpAny (model prog w) B.A (binaryOp .FloorDiv a b) Q E s) hz hp (fun i hp ra=>onI_k (Z:=Z) (P:=fun y=>Rep H y b→wpAny (model prog w) B.A (binaryOp .FloorDiv a b) Q E s) hz hp (fun j hp rb =>
   when_k (Z:=Z) hz hp fun hz hp=>by
    obtain ⟨t,rfl⟩:=ra
    obtain ⟨u,rfl⟩:=rb
    refine PyProof.Rows.floordiv_int (by lia) ?_ (Or.inl (PyProof.noPylong_small (by lia)))
    rw [Int.fdiv_eq_ediv_of_nonneg _ (by lia)]
    exact hp.ok (.refl hs) (repInt _ _ _)) rb) ra
 | mod =>
  exact onI_k (Z:=Z) (P:=fun x=>Rep H x a→wpAny (model prog w) B.A (binaryOp .Mod a b) Q E s) hz hp (fun i hp ra=>onI_k (Z:=Z) (P:=fun y=>Rep H y b→wpAny (model prog w) B.A (binaryOp .Mod a b) Q E s) hz hp (fun j hp rb =>
   when_k (Z:=Z) hz hp fun hz hp=>by
    obtain ⟨t,rfl⟩:=ra
    obtain ⟨u,rfl⟩:=rb
    refine PyProof.Rows.mod_int' (by lia) ?_
    rw [Int.fmod_eq_emod_of_nonneg _ (by lia)]
    exact hp.ok (.refl hs) (repInt _ _ _)) rb) ra
end
end Mine
namespace Mine
open PySem PySem.W PySem.SeqAt
section
variable {A:Around} {s:Shared}
theorem eqAt_of {a b:Value} {k:Bool} (h:RcAt A s a b k) (hk:a=b→k=true) (hf:∀ x t,a≠.float x t):EqAt A s a b k:=fun prog w E Q hq=>by
 unfold eqBool
 refine wpAny_holding ?_
 refine wpAny_ite_split (fun hab=>?_) (fun _=>?_)
 ·rw [hk (eq_of_beq hab)] at hq
  exact wpAny_bind (wpAny_rule (wpAny_pure hq))
 ·cases a <;> first | exact wpAny_bind (h prog w E _ (wpAny_truthy_bool hq)) | exact absurd rfl (hf _ _)
theorem same_float {M:Model} {E:Value→Shared→Prop} {x y:UInt64} {t u:Tok} {Q:Bool→Shared→Prop} (ht:t≠0) (hu:u≠0) (hb:NoneBooked s.heap) (hq:∀ b,Q b s) :
  wpAny M A (isSame (.float x t) (.float y u)) Q E s:=by
 show wpAny M A (isSame.created (x == y && !Float64.isNaN x) t u) Q E s
 unfold isSame.created
 refine wpAny_ite ?_
 split
 ·rename_i h; simp [ht,hu] at h
 refine wpAny_ite ?_
 split
 ·exact wpAny_pure (hq _)
 refine wpAny_ite ?_
 split
 ·exact wpAny_pure (hq _)
 refine wpAny_bind (wpAny_sharingNotTold_none hb ?_)
 first | rw [if_neg Bool.false_ne_true] | simp only [Bool.false_eq_true,if_false]
 refine wpAny_bind (wpAny_sharingNotTold_none hb ?_)
 first | rw [if_neg Bool.false_ne_true] | simp only [Bool.false_eq_true,if_false]
 exact wpAny_bind (wpAny_rule (wpAny_bind (wpAny_askSetting (wpAny_pure (hq _)))))
theorem bytes_eq_none (b:Array UInt8) (t:Tok):Gives (Builtin.«bytes.__eq__» ⟨[.bytes b t,.none],[]⟩) (.val Value.notImplemented):=by
 refine .of_wp fun M A E s Q hq=>?_
 show wpAny M A (isInstance .none (.type "bytes") >>= fun r => _) _ E s
 refine wpAny_bind (wpAny_isInstance (T := "NoneType") rfl F.sub_NoneType_bytes ?_)
 show wpAny M A (rule _ >>= fun _=>ret .notImplemented) _ E s
 exact wpAny_bind (wpAny_rule (wpAny_pure ⟨_,rfl,hq⟩))
theorem bytes_eq_str (b:Array UInt8) (t:Tok) (x:Str) (u:Tok):Gives (Builtin.«bytes.__eq__» ⟨[.bytes b t,.str x u],[]⟩) (.val Value.notImplemented):=by
 refine .of_wp fun M A E s Q hq=>?_
 show wpAny M A (isInstance (.str x u) (.type "bytes") >>= fun r => _) _ E s
 refine wpAny_bind (wpAny_isInstance (T := "str") (typeIs_str s x u) F.sub_str_bytes ?_)
 show wpAny M A (rule _ >>= fun _=>ret .notImplemented) _ E s
 exact wpAny_bind (wpAny_rule (wpAny_pure ⟨_,rfl,hq⟩))
theorem bytes_ne_str (b:Array UInt8) (t:Tok) (x:Str) (u:Tok):Gives (Builtin.«bytes.__ne__» ⟨[.bytes b t,.str x u],[]⟩) (.val Value.notImplemented):=by
 refine .of_wp fun M A E s Q hq=>?_
 show wpAny M A (isInstance (.str x u) (.type "bytes") >>= fun r => _) _ E s
 refine wpAny_bind (wpAny_isInstance (T := "str") (typeIs_str s x u) F.sub_str_bytes ?_)
 show wpAny M A (rule _ >>= fun _=>ret .notImplemented) _ E s
 exact wpAny_bind (wpAny_rule (wpAny_pure ⟨_,rfl,hq⟩))
theorem none_eq_bytes (b:Array UInt8) (t:Tok):Gives (Builtin.«NoneType.__eq__» ⟨[.none,.bytes b t],[]⟩) (.val Value.notImplemented) :=
 .of_wp fun M A E s Q h=>by obtain ⟨hp,g,d,tk,os⟩:=s; wp_walk; exact ⟨_,rfl,h⟩
theorem str_eq_bytes (b:Array UInt8) (t:Tok) (x:Str) (u:Tok):Gives (Builtin.«str.__eq__» ⟨[.str x u,.bytes b t],[]⟩) (.val Value.notImplemented) :=
 .of_wp fun M A E s Q h=>by obtain ⟨hp,g,d,tk,os⟩:=s; have f:=F.sub_bytes_str; wp_walk; exact ⟨_,rfl,h⟩
theorem str_ne_bytes (b:Array UInt8) (t:Tok) (x:Str) (u:Tok):Gives (Builtin.«str.__ne__» ⟨[.str x u,.bytes b t],[]⟩) (.val Value.notImplemented) :=
 .of_wp fun M A E s Q h=>by obtain ⟨hp,g,d,tk,os⟩:=s; have f:=F.sub_bytes_str; wp_walk; exact ⟨_,rfl,h⟩
theorem rc_bytes_none (b:Array UInt8) (t:Tok):RcAt A s (.bytes b t) .none false:=fun prog w E Q h =>
 rc_eq_decline_or (k:=false) (typeIs_bytes s b t) rfl (by decide) F.sub_NoneType_bytes FB.slot_bytes_eq F.slot_NoneType_eq_refl
  (fun _ hq=>call_gives FB.slot_bytes_eq (typeIs_bytes s b t) FB.entry_bytes_eq (FB.args_bytes_eq_2 _ _) (bytes_eq_none b t) hq)
  (fun _ hq=>call_gives F.slot_NoneType_eq_refl rfl F.entry_NoneType_eq (F.args_NoneType_eq_2 _ _) (none_eq_bytes b t) hq)
  (fun _ hq=>wpAny_of_eq (rfl:isSame (.bytes b t) .none=pure false) hq) (.inl rfl) h
theorem rc_bytes_str (b:Array UInt8) (t:Tok) (x:Str) (u:Tok):RcAt A s (.bytes b t) (.str x u) false:=fun prog w E Q h =>
 rc_eq_decline_or (k:=false) (typeIs_bytes s b t) (typeIs_str s x u) (by decide) F.sub_str_bytes FB.slot_bytes_eq F.slot_str_eq_refl
  (fun _ hq=>call_gives FB.slot_bytes_eq (typeIs_bytes s b t) FB.entry_bytes_eq (FB.args_bytes_eq_2 _ _) (bytes_eq_str b t x u) hq)
  (fun _ hq=>call_gives F.slot_str_eq_refl (typeIs_str s x u) F.entry_str_eq (F.args_str_eq_2 _ _) (str_eq_bytes b t x u) hq)
  (fun _ hq=>wpAny_of_eq (rfl:isSame (.bytes b t) (.str x u)=pure false) hq) (.inl rfl) h
theorem rcNe_bytes_str (b:Array UInt8) (t:Tok) (x:Str) (u:Tok):RcNeAt A s (.bytes b t) (.str x u) true:=fun prog w E Q h =>
 rc_ne_decline_or (k:=false) (typeIs_bytes s b t) (typeIs_str s x u) (by decide) F.sub_str_bytes FB.slot_bytes_ne F.slot_str_ne_refl
  (fun _ hq=>call_gives FB.slot_bytes_ne (typeIs_bytes s b t) FB.entry_bytes_ne (FB.args_bytes_ne_2 _ _) (bytes_ne_str b t x u) hq)
  (fun _ hq=>call_gives F.slot_str_ne_refl (typeIs_str s x u) F.entry_str_ne (F.args_str_ne_2 _ _) (str_ne_bytes b t x u) hq)
  (fun _ hq=>wpAny_of_eq (rfl:isSame (.bytes b t) (.str x u)=pure false) hq) (.inl rfl) h
theorem rc_bytes (b c:Array UInt8) (t u:Tok):RcAt A s (.bytes b t) (.bytes c u) (b.toList == c.toList):=fun prog w E Q h=>PySem.W.eq_bytes h
theorem rcNe_bytes (b c:Array UInt8) (t u:Tok):RcNeAt A s (.bytes b t) (.bytes c u) (!(b.toList == c.toList)):=fun prog w E Q h=>PySem.W.ne_bytes h
theorem float_eq (a b:UInt64) (t u:Tok):Gives (Builtin.«float.__eq__» ⟨[.float a t,.float b u],[]⟩) (.val (Value.bool ((fun x=>x == some Ordering.eq) (Float64.cmp a b)))) :=
 .of_wp fun M A E s Q h=>by obtain ⟨hp,g,d,tk,os⟩:=s; wp_walk; exact ⟨_,rfl,h⟩
theorem rc_float0 (t u:Tok):RcAt A s (.float 0 t) (.float 0 u) true:=fun prog w E Q h =>
 compareOp_gives (op := .Eq) (T := "float") rfl rfl F.slot_float_eq F.entry_float_eq (F.args_float_eq_2 _ _) (float_eq 0 0 t u) (fun x => nomatch x) (show Q _ s from by simpa [show Float64.cmp 0 0 = some Ordering.eq from by decide +kernel] using h)
theorem eqAt_float0 {t u:Tok} (ht:t≠0) (hu:u≠0) (hb:NoneBooked s.heap):EqAt A s (.float 0 t) (.float 0 u) true:=fun prog w E Q hq=>by
 unfold eqBool
 refine wpAny_holding ?_
 refine wpAny_ite_split (fun hab=>wpAny_bind (wpAny_rule (wpAny_pure hq))) (fun _=>?_)
 refine wpAny_bind (same_float ht hu hb fun b=>?_)
 cases b
 ·exact wpAny_bind (rc_float0 t u prog w E _ (wpAny_truthy_bool hq))
 ·exact wpAny_pure hq
theorem rc_dict0 {a b : Addr} {oa ob : Obj} {na nb : Nat} (ha : s.heap.get? a = some oa) (hb : s.heap.get? b = some ob) (ca : oa.cls = .type "dict") (cb : ob.cls = .type "dict") (da : oa.dict = none) (db : ob.dict = none)
  (pa:oa.data=.dict #[] na) (pb:ob.data=.dict #[] nb) (sa:(a == sysModules)=false) (sb:(b == sysModules)=false) (la:oa.slots=#[]) (lb:ob.slots=#[]) (hu:A.units<cLine):RcAt A s (.ref a) (.ref b) true:=fun prog w E Q h=>by
 have xa:s.heap.DictOf (intKind prog w) a []:=⟨oa,#[],na,ha,⟨ca,da,la⟩,pa,by intro e he; simp at he,.nil,by simp⟩
 have xb:s.heap.DictOf (intKind prog w) b []:=⟨ob,#[],nb,hb,⟨cb,db,lb⟩,pb,by intro e he; simp at he,.nil,by simp⟩
 exact PySem.W.keq_eq sa sb xa xb hu (fun _=>.nil) h
theorem isTuple_inj {h:Heap} {a:Addr} {x y:Array Value} (p:h.IsTuple a x) (q:h.IsTuple a y):x=y:=by
 obtain ⟨o,e,_,n,d⟩:=p
 obtain ⟨o',e',_,n',d'⟩:=q
 rw [e] at e'; cases e'
 rw [d] at d'; injection d'
theorem isList_inj {h:Heap} {a:Addr} {x y:Array Value} (p:h.IsList a x) (q:h.IsList a y):x=y:=by
 obtain ⟨o,e,_,n,d⟩:=p
 obtain ⟨o',e',_,n',d'⟩:=q
 rw [e] at e'; cases e'
 rw [d] at d'; injection d'
theorem nn {α:Type} {k:α} {p:Prop} (h:none=some k):p:=nomatch h
theorem and2_k {x y:Option Bool} {k:Bool} {p:Prop} (h:and2 x y=some k) (f:∀ a b,x=some a→y=some b→(a && b)=k→p):p:=by
 cases x with
 | none=>exact nn h
 | some a=>cases y with
  | none=>exact nn h
  | some b=>exact f a b rfl rfl (Option.some.inj h)
inductive EqV:Nat→PV→PV→Bool→Prop
 | none {n:Nat}:EqV n .none .none true
 | bn {n:Nat} {l:List Int}:EqV n (.bytes l) .none false
 | bs {n:Nat} {l:List Int} {t:List Nat}:EqV n (.bytes l) (.str t) false
 | ts {n:Nat} {l:List PV} {t:List Nat}:EqV n (.tuple l) (.str t) false
 | bool {n:Nat} {a b:Bool}:EqV n (.bool a) (.bool b) (a == b)
 | int {n:Nat} {a b:Int}:EqV n (.int a) (.int b) (a == b)
 | flt {n:Nat}:EqV n (.flt 0) (.flt 0) true
 | str {n:Nat} {a b:List Nat}:EqV n (.str a) (.str b) (a == b)
 | bytes {n:Nat} {a b:List Int}:EqV n (.bytes a) (.bytes b) (a == b)
 | tup {n:Nat} {l m:List PV} {k:Bool} (h:eqDs n l m=some k):EqV (n+1) (.tuple l) (.tuple m) k
 | lst {n:Nat} {l m:List PV} {k:Bool} (e:l.length=m.length) (h:eqDs n l m=some k):EqV (n+1) (.list l) (.list m) k
 | lsd {n:Nat} {l m:List PV} (e:l.length≠m.length):EqV (n+1) (.list l) (.list m) false
 | dict {n:Nat}:EqV n .dict0 .dict0 true
theorem ev_of {n:Nat} {x y:PV} {k b:Bool} (h:some b=some k) (q:EqV n x y b):EqV n x y k:=Option.some.inj h ▸ q
theorem flt_v {n:Nat} {a b:UInt64} {k:Bool} (h:(if a == 0 && b == 0 then some true else none)=some k):EqV n (.flt a) (.flt b) k:=by
 cases hz:a == 0 && b == 0 with
 | false=>rw [hz] at h; exact nn h
 | true=>rw [hz] at h; rw [eq_of_beq (aL hz),eq_of_beq (aR hz)]; exact ev_of h .flt
theorem tup_v:∀ {n:Nat} {a b:List PV} {k:Bool},(match n with | 0=>none | n+1=>eqDs n a b)=some k→EqV n (.tuple a) (.tuple b) k
 | 0,_,_,_,h=>nn h
 | _+1,_,_,_,h=>.tup h
theorem lst_v:∀ {n:Nat} {a b:List PV} {k:Bool},(match n with | 0=>none | n+1=>if a.length == b.length then eqDs n a b else some false)=some k→EqV n (.list a) (.list b) k
 | 0,_,_,_,h=>nn h
 | n+1,a,b,k,h=>by
  cases hz:a.length == b.length with
  | false =>
   have h:(if a.length == b.length then eqDs n a b else some false)=some k:=h
   rw [hz] at h; exact ev_of h (.lsd fun e=>by rw [e,beq_self_eq_true] at hz; cases hz)
  | true =>
   have h:(if a.length == b.length then eqDs n a b else some false)=some k:=h
   rw [hz] at h; exact .lst (eq_of_beq hz) h
theorem eqD_v {n:Nat} {x y:PV} {k:Bool} (h:eqD n x y=some k):EqV n x y k:=by
 cases x with
 | none=>cases y <;> first | exact nn h | exact ev_of h .none
 | bool a=>cases y <;> first | exact nn h | exact ev_of h .bool
 | int a=>cases y <;> first | exact nn h | exact ev_of h .int
 | flt a=>cases y <;> first | exact nn h | exact flt_v h
 | str a=>cases y <;> first | exact nn h | exact ev_of h .str
 | bytes a=>cases y <;> first | exact nn h | exact ev_of h .bn | exact ev_of h .bs | exact ev_of h .bytes
 | tuple a=>cases y <;> first | exact nn h | exact ev_of h .ts | exact tup_v h
 | list a=>cases y <;> first | exact nn h | exact lst_v h
 | dict0=>cases y <;> first | exact nn h | exact ev_of h .dict
theorem EqV.self {n:Nat} {x y:PV} {k:Bool} (v:EqV n x y k) (e:x=y) (ih:∀ m,n=m+1→∀ (l:List PV) {b:Bool},eqDs m l l=some b→b=true):k=true:=by
 cases v with
 | none=>rfl
 | bn=>cases e
 | bs=>cases e
 | ts=>cases e
 | bool=>cases e; exact beq_self_eq_true _
 | int=>cases e; exact beq_self_eq_true _
 | flt=>rfl
 | str=>cases e; exact beq_self_eq_true _
 | bytes=>cases e; exact beq_self_eq_true _
 | tup h=>cases e; exact ih _ rfl _ h
 | lst _ h=>cases e; exact ih _ rfl _ h
 | lsd h=>cases e; exact absurd rfl h
 | dict=>rfl
theorem eqDs_self {n:Nat} (ih:∀ (p:PV) {b:Bool},eqD n p p=some b→b=true):∀ (l:List PV) {b:Bool},eqDs n l l=some b→b=true
 | [],_,h=>(Option.some.inj h).symm
 | p::r,b,h=>and2_k (show and2 (eqD n p p) (eqDs n r r)=some b from h) fun x y h1 h2 h3=>by rw [← h3,ih p h1,eqDs_self ih r h2]; rfl
theorem eqD_self:∀ (n:Nat) (p:PV) {b:Bool},eqD n p p=some b→b=true
 | 0,p,_,h=>(eqD_v h).self rfl fun _ e=>nomatch e
 | n+1,p,_,h=>(eqD_v h).self rfl fun m e=>by cases e; exact eqDs_self (eqD_self n)
end
theorem pairs_at {H:Heap} {n:Nat} {A:Around} {s:Shared} (ih:∀ {x y:PV} {a b:Value} {k:Bool},eqD n x y=some k→Rep H x a→Rep H y b→EqAt A s a b k) :
  ∀ {l m:List PV} {vs us:List Value} {k:Bool},eqDs n l m=some k→RepL H l vs→RepL H m us →
   ∃ e:Nat→Bool,(∀ j (h1:j<vs.length) (h2:j<us.length),EqAt A s vs[j] us[j] (e j))∧((List.range (min vs.length us.length)).all e && vs.length == us.length)=k
 | [],[],vs,us,k,h,r1,r2=>by
  cases r1; cases r2; cases h
  exact ⟨fun _=>false,fun j h1=>absurd h1 (Nat.not_lt_zero _),rfl⟩
 | [],_::_,vs,us,k,h,r1,r2=>by
  obtain ⟨w,t,rfl,_⟩:=r2; cases r1; cases h
  exact ⟨fun _=>false,fun j h1=>absurd h1 (Nat.not_lt_zero _),by rw [List.length_nil,Nat.zero_min]; rfl⟩
 | _::_,[],vs,us,k,h,r1,r2=>by
  obtain ⟨w,t,rfl,_⟩:=r1; cases r2; cases h
  exact ⟨fun _=>false,fun j _ h1=>absurd h1 (Nat.not_lt_zero _),by rw [List.length_nil,Nat.min_zero]; rfl⟩
 | p::r,q::t,vs,us,k,h,r1,r2=>by
  obtain ⟨v,vs',rfl,hv,hr1⟩:=r1
  obtain ⟨u,us',rfl,hu,hr2⟩:=r2
  refine and2_k (show and2 (eqD n p q) (eqDs n r t)=some k from h) fun x y h1 h2 h=>?_
  obtain ⟨e,he,hk⟩:=pairs_at ih h2 hr1 hr2
  refine ⟨fun j=>match j with | 0=>x | j+1=>e j,fun j g1 g2=>?_,?_⟩
  ·cases j with
   | zero=>exact ih h1 hv hu
   | succ j=>exact he j (Nat.lt_of_succ_lt_succ g1) (Nat.lt_of_succ_lt_succ g2)
  ·rw [← h,← hk,List.length_cons,List.length_cons,Nat.succ_min_succ,List.range_succ_eq_map,List.all_cons,List.all_map,Bool.and_assoc]
   show (x && ((List.range (min vs'.length us'.length)).all e && (vs'.length+1 == us'.length+1)))=_
   congr 2
   rw [Bool.eq_iff_iff,beq_iff_eq,beq_iff_eq,Nat.add_right_cancel_iff]
noncomputable def tyN:PV→Nat
 | .none=>0
 | .bool _=>1
 | .int _=>2
 | .flt _=>3
 | .str _=>4
 | .bytes _=>5
 | .tuple _=>6
 | .list _=>7
 | .dict0=>8
noncomputable def clsN:Value→Nat
 | .type T => if T = "tuple" then 6 else if T = "list" then 7 else 8
 | _=>9
noncomputable def vtyN (H:Heap):Value→Nat
 | .none=>0
 | .bool _=>1
 | .int _ _=>2
 | .float _ _=>3
 | .str _ _=>4
 | .bytes _ _=>5
 | .ref a=>((H.get? a).map fun o=>clsN o.cls).getD 9
 | _=>9
theorem vty_ref {H:Heap} {a:Addr} {o:Obj} {T:String} (e:H.get? a=some o) (c:o.cls=.type T):vtyN H (.ref a)=clsN (.type T):=by
 show ((H.get? a).map fun o=>clsN o.cls).getD 9=_
 rw [e,← c]; rfl
theorem vty_of {H:Heap} {p:PV} {v:Value} (r:Rep H p v):vtyN H v=tyN p:=by
 cases p with
 | none=>cases r; rfl
 | bool b=>cases r; rfl
 | int i=>obtain ⟨t,rfl⟩:=r; rfl
 | flt x=>obtain ⟨t,rfl,_⟩:=r; rfl
 | str l=>obtain ⟨_,_,rfl,_⟩:=r; rfl
 | bytes l=>obtain ⟨_,_,rfl,_⟩:=r; rfl
 | tuple l=>obtain ⟨a,ws,rfl,⟨o,e,c,_⟩,_⟩:=r; exact vty_ref e c
 | list l=>obtain ⟨a,ws,rfl,⟨o,e,c,_⟩,_⟩:=r; exact vty_ref e c
 | dict0=>obtain ⟨a,o,n,rfl,e,c,_⟩:=r; exact vty_ref e c
theorem same_ty {H:Heap} {x y:PV} {v:Value} (h1:Rep H x v) (h2:Rep H y v):(tyN y == tyN x)=true:=beq_iff_eq.2 ((vty_of h2).symm.trans (vty_of h1))
theorem of0 {P:PV→Prop} {y:PV} (e:(tyN y == 0)=true) (k:P .none):P y:=@PV.casesOn (fun y=>(tyN y == 0)=true→P y) y (fun _=>k) (fun _=>ff) (fun _=>ff) (fun _=>ff) (fun _=>ff) (fun _=>ff) (fun _=>ff) (fun _=>ff) ff e
theorem of1 {P:PV→Prop} {y:PV} (e:(tyN y == 1)=true) (k:∀ a,P (.bool a)):P y:=@PV.casesOn (fun y=>(tyN y == 1)=true→P y) y ff (fun a _=>k a) (fun _=>ff) (fun _=>ff) (fun _=>ff) (fun _=>ff) (fun _=>ff) (fun _=>ff) ff e
theorem of2 {P:PV→Prop} {y:PV} (e:(tyN y == 2)=true) (k:∀ a,P (.int a)):P y:=@PV.casesOn (fun y=>(tyN y == 2)=true→P y) y ff (fun _=>ff) (fun a _=>k a) (fun _=>ff) (fun _=>ff) (fun _=>ff) (fun _=>ff) (fun _=>ff) ff e
theorem of3 {P:PV→Prop} {y:PV} (e:(tyN y == 3)=true) (k:∀ a,P (.flt a)):P y:=@PV.casesOn (fun y=>(tyN y == 3)=true→P y) y ff (fun _=>ff) (fun _=>ff) (fun a _=>k a) (fun _=>ff) (fun _=>ff) (fun _=>ff) (fun _=>ff) ff e
theorem of4 {P:PV→Prop} {y:PV} (e:(tyN y == 4)=true) (k:∀ a,P (.str a)):P y:=@PV.casesOn (fun y=>(tyN y == 4)=true→P y) y ff (fun _=>ff) (fun _=>ff) (fun _=>ff) (fun a _=>k a) (fun _=>ff) (fun _=>ff) (fun _=>ff) ff e
theorem of5 {P:PV→Prop} {y:PV} (e:(tyN y == 5)=true) (k:∀ a,P (.bytes a)):P y:=@PV.casesOn (fun y=>(tyN y == 5)=true→P y) y ff (fun _=>ff) (fun _=>ff) (fun _=>ff) (fun _=>ff) (fun a _=>k a) (fun _=>ff) (fun _=>ff) ff e
theorem of6 {P:PV→Prop} {y:PV} (e:(tyN y == 6)=true) (k:∀ a,P (.tuple a)):P y:=@PV.casesOn (fun y=>(tyN y == 6)=true→P y) y ff (fun _=>ff) (fun _=>ff) (fun _=>ff) (fun _=>ff) (fun _=>ff) (fun a _=>k a) (fun _=>ff) ff e
theorem of7 {P:PV→Prop} {y:PV} (e:(tyN y == 7)=true) (k:∀ a,P (.list a)):P y:=@PV.casesOn (fun y=>(tyN y == 7)=true→P y) y ff (fun _=>ff) (fun _=>ff) (fun _=>ff) (fun _=>ff) (fun _=>ff) (fun _=>ff) (fun a _=>k a) ff e
theorem of8 {P:PV→Prop} {y:PV} (e:(tyN y == 8)=true) (k:P .dict0):P y:=@PV.casesOn (fun y=>(tyN y == 8)=true→P y) y ff (fun _=>ff) (fun _=>ff) (fun _=>ff) (fun _=>ff) (fun _=>ff) (fun _=>ff) (fun _=>ff) (fun _=>k) e
mutual
theorem Rep.det {H:Heap}:∀ {x y:PV} {v:Value},Rep H x v→Rep H y v→x=y
 | .none,y,v,h1,h2=>of0 (P:=fun y=>.none=y) (same_ty h1 h2) rfl
 | .bool b,y,v,h1,h2=>of1 (P:=fun y=>Rep H y v→.bool b=y) (same_ty h1 h2) (fun c h2=>by cases h1; cases h2; rfl) h2
 | .int b,y,v,h1,h2=>of2 (P:=fun y=>Rep H y v→.int b=y) (same_ty h1 h2) (fun c h2=>by obtain ⟨t,rfl⟩:=h1; obtain ⟨_,h⟩:=h2; cases h; rfl) h2
 | .flt b,y,v,h1,h2=>of3 (P:=fun y=>Rep H y v→.flt b=y) (same_ty h1 h2) (fun c h2=>by obtain ⟨t,rfl,_⟩:=h1; obtain ⟨_,h,_⟩:=h2; cases h; rfl) h2
 | .str b,y,v,h1,h2=>of4 (P:=fun y=>Rep H y v→.str b=y) (same_ty h1 h2) (fun c h2=>by obtain ⟨s,t,rfl,e⟩:=h1; obtain ⟨_,_,h,e'⟩:=h2; cases h; rw [← e,← e']) h2
 | .bytes b,y,v,h1,h2=>of5 (P:=fun y=>Rep H y v→.bytes b=y) (same_ty h1 h2) (fun c h2=>by obtain ⟨s,t,rfl,e,_⟩:=h1; obtain ⟨_,_,h,e',_⟩:=h2; cases h; rw [← e,← e']) h2
 | .tuple l,y,v,h1,h2=>of6 (P:=fun y=>Rep H y v→.tuple l=y) (same_ty h1 h2) (fun c h2=>by
  obtain ⟨a,ws,rfl,t,_,r⟩:=h1
  obtain ⟨_,us,e,t',_,r'⟩:=h2; cases e
  cases List.toArray_inj (isTuple_inj t t')
  rw [RepL.det r r']) h2
 | .list l,y,v,h1,h2=>of7 (P:=fun y=>Rep H y v→.list l=y) (same_ty h1 h2) (fun c h2=>by
  obtain ⟨a,ws,rfl,t,_,r⟩:=h1
  obtain ⟨_,us,e,t',_,r'⟩:=h2; cases e
  cases List.toArray_inj (isList_inj t t')
  rw [RepL.det r r']) h2
 | .dict0,y,v,h1,h2=>of8 (P:=fun y=>.dict0=y) (same_ty h1 h2) rfl
theorem RepL.det {H:Heap}:∀ {l m:List PV} {ws:List Value},RepL H l ws→RepL H m ws→l=m
 | [],[],ws,h1,h2=>rfl
 | [],q::t,ws,h1,h2=>by cases h1; obtain ⟨_,_,h,_⟩:=h2; cases h
 | p::r,[],ws,h1,h2=>by cases h2; obtain ⟨_,_,h,_⟩:=h1; cases h
 | p::r,q::t',ws,h1,h2=>by
  obtain ⟨w,t,rfl,hp,hr⟩:=h1
  obtain ⟨w',t'',h,hq,hr'⟩:=h2
  cases h
  rw [Rep.det hp hq,RepL.det hr hr']
end
theorem bInt_inj {a b:Array UInt8}:bInt a=bInt b→a=b:=by
 intro h
 have:a.toList=b.toList:=by
  have inj:Function.Injective (fun c:UInt8=>(c.toNat:Int)):=fun x y e=>UInt8.toNat_inj.1 (Int.ofNat.inj e)
  exact (List.map_inj_right (fun x y e=>inj e)).1 h
 exact Array.toList_inj.1 this
theorem bInt_beq (a b:Array UInt8):(a.toList == b.toList)=(bInt a == bInt b):=by
 rw [Bool.eq_iff_iff,beq_iff_eq,beq_iff_eq]
 exact ⟨fun h=>by rw [Array.toList_inj.1 h],fun h=>by rw [bInt_inj h]⟩
theorem str_beq' (a b:Str):(a == b)=(a.cps.toList == b.cps.toList):=(SeqAt.str_beq a b).symm
theorem eq_of_rc {H:Heap} {n:Nat} {x y:PV} {a b:Value} {k:Bool} {A:Around} {s:Shared} (h:eqD n x y=some k) (r1:Rep H x a) (r2:Rep H y b) (hb:NoneBooked s.heap) (hr:RcAt A s a b k):EqAt A s a b k:=by
 by_cases hf:∃ z t,a=.float z t
 ·obtain ⟨z,t,rfl⟩:=hf
  refine of3 (P:=fun x=>Rep H x (.float z t)→eqD n x y=some k→EqAt A s (.float z t) b k) (beq_iff_eq.2 (vty_of r1).symm) (fun c r1 h=>?_) r1 h
  obtain ⟨_,e,ht⟩:=r1; cases e
  cases eqD_v h
  obtain ⟨u,rfl,hu⟩:=rep_flt r2
  exact eqAt_float0 ht hu hb
 ·exact eqAt_of hr (fun e=>by subst e; have:=Rep.det r1 r2; subst this; exact eqD_self n x h) (fun z t e=>hf ⟨z,t,e⟩)
theorem len_all {α:Type} {R:Bool→Prop} {vs us:List α} {e:Nat→Bool} (h:vs.length=us.length) (x:R ((List.range vs.length).all e)):R ((List.range (min vs.length us.length)).all e && vs.length == us.length):=by
 rw [← h,Nat.min_self,beq_self_eq_true,Bool.and_true]; exact x
theorem rc_at {H:Heap}:∀ (n:Nat) {x y:PV} {a b:Value} {k:Bool} {A:Around} {s:Shared},eqD n x y=some k→Rep H x a→Rep H y b→H.StaysIn s.heap→NoneBooked s.heap→A.units+n<cLine →
  RcAt A s a b k:=by
 intro n
 induction n using Nat.strongRecOn with
 | ind n ih =>
  intro x y a b k A s h r1 r2 hs hb hu
  cases eqD_v h with
  | none=>cases r1; cases r2; exact .none_none
  | bool=>cases r1; cases r2; exact .bool_bool _ _
  | int =>
   obtain ⟨t,rfl⟩:=r1
   obtain ⟨u,rfl⟩:=r2
   exact .int_int _ _ _ _
  | flt =>
   obtain ⟨t,rfl,_⟩:=r1
   obtain ⟨u,rfl,hu⟩:=r2
   exact rc_float0 t u
  | str =>
   obtain ⟨p,t,rfl,e⟩:=r1
   obtain ⟨q,u,rfl,e'⟩:=r2
   rw [← e,← e',← str_beq']; exact .str_str _ _ _ _
  | bn =>
   obtain ⟨p,t,rfl,e,_⟩:=r1
   cases r2; exact rc_bytes_none _ _
  | bs =>
   obtain ⟨p,t,rfl,e,_⟩:=r1
   obtain ⟨q,u,rfl,e'⟩:=r2
   exact rc_bytes_str _ _ _ _
  | bytes =>
   obtain ⟨p,t,rfl,e,_⟩:=r1
   obtain ⟨q,u,rfl,e',_⟩:=r2
   rw [← e,← e',← bInt_beq]; exact rc_bytes _ _ _ _
  | ts =>
   obtain ⟨c,ws,rfl,hl,_⟩:=r1
   obtain ⟨q,u,rfl,e'⟩:=r2
   exact .tuple_str _ _ (isTuple_up hs hl) (by lia)
  | dict =>
   obtain ⟨c,o,m,rfl,g,c1,d1,p1,y1,l1⟩:=r1
   obtain ⟨c',o',m',rfl,g',c1',d1',p1',y1',l1'⟩:=r2
   exact rc_dict0 (hs _ _ g) (hs _ _ g') c1 c1' d1 d1' p1 p1' y1 y1' l1 l1' (by lia)
  | @tup n _ _ _ h =>
   obtain ⟨c,vs,rfl,hl,_,q1⟩:=r1
   obtain ⟨c',us,rfl,hl',_,q2⟩:=r2
   obtain ⟨e,he,rfl⟩:=pairs_at (A:=A.in1) (s:=s) (fun h r r'=>eq_of_rc h r r' hb (ih n (Nat.lt_succ_self n) h r r' hs hb (by show A.units+1+n<cLine; lia))) h q1 q2
   exact RcAt.tuples (items:=vs.toArray) (items2:=us.toArray) (isTuple_up hs hl) (isTuple_up hs hl') (by lia) he
  | @lst n _ _ _ hlen h =>
   obtain ⟨c,vs,rfl,hl,_,q1⟩:=r1
   obtain ⟨c',us,rfl,hl',_,q2⟩:=r2
   obtain ⟨e,he,rfl⟩:=pairs_at (A:=A.in1) (s:=s) (fun h r r'=>eq_of_rc h r r' hb (ih n (Nat.lt_succ_self n) h r r' hs hb (by show A.units+1+n<cLine; lia))) h q1 q2
   exact len_all (q1.length.trans (hlen.trans q2.length.symm)) (RcAt.lists (items:=vs.toArray) (items2:=us.toArray) (isList_up hs hl) (isList_up hs hl') (q1.length.trans (hlen.trans q2.length.symm)) (by lia) he)
  | lsd hlen =>
   obtain ⟨c,vs,rfl,hl,_,q1⟩:=r1
   obtain ⟨c',us,rfl,hl',_,q2⟩:=r2
   exact RcAt.lists_lengths (items:=vs.toArray) (items2:=us.toArray) (isList_up hs hl) (isList_up hs hl') (bne_iff_ne.2 (by show vs.length≠us.length; rw [q1.length,q2.length]; exact hlen)) (by lia)
theorem eq_at {H:Heap} (n:Nat) {x y:PV} {a b:Value} {k:Bool} {A:Around} {s:Shared} (h:eqD n x y=some k) (r1:Rep H x a) (r2:Rep H y b) (hs:H.StaysIn s.heap) (hb:NoneBooked s.heap) (hu:A.units+n<cLine) :
  EqAt A s a b k:=eq_of_rc h r1 r2 hb (rc_at n h r1 r2 hs hb hu)
theorem rcNe_at {H:Heap} {n:Nat} {x y:PV} {a b:Value} {k:Bool} {A:Around} {s:Shared} (h:eqD n x y=some k) (r1:Rep H x a) (r2:Rep H y b) (hs:H.StaysIn s.heap) (hb:NoneBooked s.heap) (hu:A.units+n<cLine)
  (hok:neOk x y=true) :
  RcNeAt A s a b (!k):=by
  cases eqD_v h with
  | none=>cases r1; cases r2; exact .none_none
  | bool=>cases r1; cases r2; exact .bool_bool _ _
  | int =>
   obtain ⟨t,rfl⟩:=r1
   obtain ⟨u,rfl⟩:=r2
   exact .int_int _ _ _ _
  | flt=>exact ff hok
  | bn=>exact ff hok
  | dict=>exact ff hok
  | str =>
   obtain ⟨p,t,rfl,e⟩:=r1
   obtain ⟨q,u,rfl,e'⟩:=r2
   rw [← e,← e',← str_beq']; exact .str_str _ _ _ _
  | bs =>
   obtain ⟨p,t,rfl,e,_⟩:=r1
   obtain ⟨q,u,rfl,e'⟩:=r2
   exact rcNe_bytes_str _ _ _ _
  | bytes =>
   obtain ⟨p,t,rfl,e,_⟩:=r1
   obtain ⟨q,u,rfl,e',_⟩:=r2
   rw [← e,← e',← bInt_beq]; exact rcNe_bytes _ _ _ _
  | ts =>
   obtain ⟨c,ws,rfl,hl,_⟩:=r1
   obtain ⟨q,u,rfl,e'⟩:=r2
   exact .tuple_str _ _ (isTuple_up hs hl) (by lia)
  | @tup n _ _ _ h =>
   obtain ⟨c,vs,rfl,hl,_,q1⟩:=r1
   obtain ⟨c',us,rfl,hl',_,q2⟩:=r2
   obtain ⟨e,he,rfl⟩:=pairs_at (A:=A.in1) (s:=s) (fun h r r'=>eq_at n h r r' hs hb (by show A.units+1+n<cLine; lia)) h q1 q2
   exact RcNeAt.tuples (items:=vs.toArray) (items2:=us.toArray) (isTuple_up hs hl) (isTuple_up hs hl') (by lia) he
  | @lst n _ _ _ hlen h =>
   obtain ⟨c,vs,rfl,hl,_,q1⟩:=r1
   obtain ⟨c',us,rfl,hl',_,q2⟩:=r2
   obtain ⟨e,he,rfl⟩:=pairs_at (A:=A.in1) (s:=s) (fun h r r'=>eq_at n h r r' hs hb (by show A.units+1+n<cLine; lia)) h q1 q2
   exact len_all (R:=fun k=>RcNeAt A s (.ref c) (.ref c') (!k)) (q1.length.trans (hlen.trans q2.length.symm)) (RcNeAt.lists (items:=vs.toArray) (items2:=us.toArray) (isList_up hs hl) (isList_up hs hl') (q1.length.trans (hlen.trans q2.length.symm)) (by lia) he)
  | lsd hlen =>
   obtain ⟨c,vs,rfl,hl,_,q1⟩:=r1
   obtain ⟨c',us,rfl,hl',_,q2⟩:=r2
   exact RcNeAt.lists_lengths (items:=vs.toArray) (items2:=us.toArray) (isList_up hs hl) (isList_up hs hl') (bne_iff_ne.2 (by show vs.length≠us.length; rw [q1.length,q2.length]; exact hlen)) (by lia)
end Mine
namespace Mine
open PySem PySem.W PySem.SeqAt
theorem gives_contains (b:Array UInt8) (t:Tok) (n:Int) (u:Tok) (h0:0≤n) (h1:n<256):Gives (Builtin.«bytes.__contains__» ⟨[.bytes b t,.int n u],[]⟩) (.val (.bool (b.contains n.toNat.toUInt8))) :=
 .of_wp fun M A E s Q h=>by
  obtain ⟨hp,g,d,tk,os⟩:=s
  have f1:=AutoSeq1.idx_int
  have f3 : Builtin.Bytes.buffer? "bytes.__contains__" (.bytes b t) = pure (some b) := KBy.buffer_eq
  have f2:¬ ((decide (n<0) || decide (n ≥ 256))=true):=by simp; lia
  wp_walk
  exact ⟨_,rfl,h⟩
theorem contains_int {b:Array UInt8} {l:List Int} (e:bInt b=l) {n:Int} (h0:0≤n) (h1:n<256):b.contains n.toNat.toUInt8=decide (n∈l):=by
 subst e
 rw [Bool.eq_iff_iff,Array.contains_iff_mem,decide_eq_true_iff]
 unfold bInt
 rw [List.mem_map]
 have hn:(n.toNat.toUInt8).toNat=n.toNat:=by simp; lia
 constructor
 ·intro h
  exact ⟨_,Array.mem_toList_iff.2 h,by rw [hn]; lia⟩
 ·rintro ⟨c,hc,rfl⟩
  have:(↑c.toNat:Int).toNat.toUInt8=c:=by simp
  rw [this]
  exact Array.mem_toList_iff.1 hc
theorem memD_some {n:Nat} {x:PV}:∀ {l:List PV} {k:Bool},memD n x l=some k→(∀ p∈l,∃ j,eqD n p x=some j)∧k=l.any (fun p=>eqD n p x == some true)
 | [],k,h=>⟨fun _ q=>(by cases q),(Option.some.inj h).symm⟩
 | p::r,k,h=>by
  have h:(match eqD n p x,memD n x r with | some a,some b=>some (a || b) | _,_=>none)=some k:=h
  cases h1:eqD n p x with
  | none=>rw [h1] at h; exact nn h
  | some a =>
   cases h2:memD n x r with
   | none=>rw [h1,h2] at h; exact nn h
   | some b =>
    rw [h1,h2] at h
    obtain ⟨g1,g2⟩:=memD_some h2
    refine ⟨fun q hq=>?_,?_⟩
    ·rcases List.mem_cons.1 hq with rfl | hq
     ·exact ⟨a,h1⟩
     ·exact g1 q hq
    ·rw [← Option.some.inj h,g2,List.any_cons,h1]; cases a <;> rfl
theorem RepL.mem {H:Heap}:∀ {l:List PV} {ws:List Value} {v:Value},RepL H l ws→v∈ws→∃ p∈l,Rep H p v
 | [],ws,v,h,hv=>by rw [RepL] at h; subst h; cases hv
 | p::r,ws,v,h,hv=>by
  rw [RepL] at h
  obtain ⟨w,t,rfl,hp,hr⟩:=h
  rcases List.mem_cons.1 hv with rfl | hv
  ·exact ⟨p,by simp,hp⟩
  ·obtain ⟨q,hq,hr⟩:=hr.mem hv; exact ⟨q,by simp [hq],hr⟩
open Classical in
theorem mem_any {H:Heap} {n:Nat} {x:PV} {a:Value} {A:Around} {s:Shared} {l:List PV} {ws:List Value} {k:Bool} (h:memD n x l=some k) (rx:Rep H x a) (rl:RepL H l ws)
  (hs:H.StaysIn s.heap) (hb:NoneBooked s.heap) (hu:A.units+n<cLine):∃ e:Value→Bool,(∀ y,y∈ws→EqAt A s y a (e y))∧ws.any e=k:=by
 obtain ⟨h1,h2⟩:=memD_some h
 have key:∀ {y:Value} {p:PV},Rep H p y→(∃ j,eqD n p x=some j)→decide (∃ q,Rep H q y∧eqD n q x=some true)=(eqD n p x == some true):=by
  intro y p hp ⟨j,hj⟩
  rw [Bool.eq_iff_iff,decide_eq_true_iff,beq_iff_eq]
  constructor
  ·rintro ⟨q,hq,he⟩; rw [Rep.det hp hq]; exact he
  ·intro he; exact ⟨p,hp,he⟩
 refine ⟨fun y=>decide (∃ q,Rep H q y∧eqD n q x=some true),fun y hy=>?_,?_⟩
 ·obtain ⟨p,hp,hr⟩:=rl.mem hy
  obtain ⟨j,hj⟩:=h1 p hp
  have hd:=key hr ⟨j,hj⟩
  have hj':(eqD n p x == some true)=j:=by rw [hj]; cases j <;> rfl
  show EqAt A s y a (decide (∃ q,Rep H q y∧eqD n q x=some true))
  rw [hd,hj']
  exact eq_at n hj hr rx hs hb hu
 ·rw [h2]
  clear h2 h
  induction l generalizing ws with
  | nil=>rw [RepL] at rl; subst rl; rfl
  | cons p r ih =>
   rw [RepL] at rl
   obtain ⟨v,t,rfl,hp,hr⟩:=rl
   rw [List.any_cons,List.any_cons,ih hr (fun q hq=>h1 q (by simp [hq])),key hp (h1 p (by simp))]
section
variable {prog:Program} {w:World} {Γ:Ct} {B:Bl}
theorem booked {H:Heap} {ρ:List Slot} {s:Shared} (hΓ:Γ.Ok) (hs:St Γ B H ρ s):NoneBooked s.heap:=by
 obtain ⟨mc,h1,h2⟩:=hΓ.statics
 exact ⟨mc,h1.keeps (stays_trans hs.base hs.stays),h2⟩
theorem none_of {H:Heap} {x:PV} {a:Value} (ra:Rep H x a):plainIs a .none=true∧isNone x=(a == Value.none):=by
 cases x with
 | none=>cases ra; exact ⟨rfl,rfl⟩
 | bool _=>cases ra; exact ⟨rfl,rfl⟩
 | int _=>obtain ⟨_,rfl⟩:=ra; exact ⟨rfl,rfl⟩
 | flt _=>obtain ⟨_,rfl,_⟩:=ra; exact ⟨rfl,rfl⟩
 | str _=>obtain ⟨_,_,rfl,_⟩:=ra; exact ⟨rfl,rfl⟩
 | bytes _=>obtain ⟨_,_,rfl,_⟩:=ra; exact ⟨rfl,rfl⟩
 | tuple _=>obtain ⟨_,_,rfl,_⟩:=ra; exact ⟨rfl,rfl⟩
 | list _=>obtain ⟨_,_,rfl,_⟩:=ra; exact ⟨rfl,rfl⟩
 | dict0=>obtain ⟨_,_,_,rfl,_⟩:=ra; exact ⟨rfl,rfl⟩
theorem so_cmp {d:Nat} (hΓ:Γ.Ok) (hB:B.Ok d) {op:CmpOp} {o:COp} (ho:copOk op o=true):CmpOk prog w Γ B op o:=by
 intro H ρ s x y a b hst ra rb Q E hp
 have hs:=hst.stays
 have hun:=hB.units
 have hbk:=booked hΓ hst
 cases of_decide_eq_true ho
 let Z (r:Res Bool):Prop:=Post Rep (B.fenv::B.outer) H s (r.bind fun r=>.ok (.bool r)) Q E
 have hz:Z .stuck→False:=id
 cases o with
 | eq =>
  have hp:Z (ofO (eqD 12 x y)):=hp
  cases h:eqD 12 x y with
  | none=>rw [h] at hp; exact (hz hp).elim
  | some k =>
   rw [h] at hp
   exact rc_at 12 h ra rb hs hbk (by lia) prog w E Q (hp.ok (.refl hs) (repBool _ _))
 | ne =>
  refine when_k (Z:=Z) hz hp fun hok hp=>?_
  cases h:eqD 12 x y with
  | none=>rw [h] at hp; exact (hz hp).elim
  | some k =>
   rw [h] at hp
   exact rcNe_at h ra rb hs hbk (by lia) hok prog w E Q (hp.ok (.refl hs) (repBool _ _))
 | lt =>
  exact onI_k (Z:=Z) (P:=fun x=>Rep H x a→wpAny (model prog w) B.A (compareOp .Lt a b) Q E s) hz hp (fun i hp ra=>onI_k (Z:=Z) (P:=fun y=>Rep H y b→wpAny (model prog w) B.A (compareOp .Lt a b) Q E s) hz hp (fun j hp rb=>by
   obtain ⟨t,rfl⟩:=ra
   obtain ⟨u,rfl⟩:=rb
   exact P.lt_int (hp.ok (.refl hs) (repBool _ _))) rb) ra
 | le =>
  exact onI_k (Z:=Z) (P:=fun x=>Rep H x a→wpAny (model prog w) B.A (compareOp .LtE a b) Q E s) hz hp (fun i hp ra=>onI_k (Z:=Z) (P:=fun y=>Rep H y b→wpAny (model prog w) B.A (compareOp .LtE a b) Q E s) hz hp (fun j hp rb=>by
   obtain ⟨t,rfl⟩:=ra
   obtain ⟨u,rfl⟩:=rb
   exact P.le_int (hp.ok (.refl hs) (repBool _ _))) rb) ra
 | gt =>
  exact onI_k (Z:=Z) (P:=fun x=>Rep H x a→wpAny (model prog w) B.A (compareOp .Gt a b) Q E s) hz hp (fun i hp ra=>onI_k (Z:=Z) (P:=fun y=>Rep H y b→wpAny (model prog w) B.A (compareOp .Gt a b) Q E s) hz hp (fun j hp rb=>by
   obtain ⟨t,rfl⟩:=ra
   obtain ⟨u,rfl⟩:=rb
   exact P.gt_int (hp.ok (.refl hs) (repBool _ _))) rb) ra
 | ge =>
  exact onI_k (Z:=Z) (P:=fun x=>Rep H x a→wpAny (model prog w) B.A (compareOp .GtE a b) Q E s) hz hp (fun i hp ra=>onI_k (Z:=Z) (P:=fun y=>Rep H y b→wpAny (model prog w) B.A (compareOp .GtE a b) Q E s) hz hp (fun j hp rb=>by
   obtain ⟨t,rfl⟩:=ra
   obtain ⟨u,rfl⟩:=rb
   exact P.ge_int (hp.ok (.refl hs) (repBool _ _))) rb) ra
 | is_ =>
  exact onN_k (Z:=Z) (P:=fun y=>Rep H y b→wpAny (model prog w) B.A (compareOp .Is a b) Q E s) hz hp (fun hp rb=>by
   cases rb
   rw [(none_of ra).2] at hp
   exact wpAny_is_plain (none_of ra).1 (hp.ok (.refl hs) (repBool _ _))) rb
 | isNot =>
  exact onN_k (Z:=Z) (P:=fun y=>Rep H y b→wpAny (model prog w) B.A (compareOp .IsNot a b) Q E s) hz hp (fun hp rb=>by
   cases rb
   rw [(none_of ra).2] at hp
   exact wpAny_isNot_plain (none_of ra).1 (hp.ok (.refl hs) (repBool _ _))) rb
 | in_ =>
  cases y with
  | bytes l=>exact onI_k (Z:=Z) (P:=fun x=>Rep H x a→wpAny (model prog w) B.A (compareOp .In a b) Q E s) hz hp (fun n hp ra=>when_k (Z:=Z) hz hp fun hz hp=>by
    obtain ⟨t,rfl⟩:=ra
    obtain ⟨c,u,rfl,e,_⟩:=rb
    refine in_gives (typeIs_bytes s c u) FB.slot_bytes_contains FB.entry_bytes_contains (FB.args_bytes_contains_2 _ _) (gives_contains c u n t hz.1 hz.2) ?_
    rw [contains_int e hz.1 hz.2]
    exact hp.ok (.refl hs) (repBool _ _)) ra
  | tuple l =>
   have hp:Post Rep (B.fenv::B.outer) H s ((ofO (memD 12 x l)).bind fun r=>.ok (.bool r)) Q E:=hp
   cases h:memD 12 x l with
   | none=>rw [h] at hp; exact hp.elim
   | some k =>
    rw [h] at hp
    obtain ⟨c,ws,rfl,hl,_,hr⟩:=rb
    obtain ⟨e,he,hk⟩:=mem_any (A:=B.A.in1) h ra hr hs hbk (by show B.A.units+1+12<cLine; lia)
    refine in_tupleAt e (isTuple_up hs hl) (fun y hy=>he y (List.mem_toArray.1 hy)) ?_
    rw [List.any_toArray,hk]
    exact hp.ok (.refl hs) (repBool _ _)
  | list l =>
   have hp:Post Rep (B.fenv::B.outer) H s ((ofO (memD 12 x l)).bind fun r=>.ok (.bool r)) Q E:=hp
   cases h:memD 12 x l with
   | none=>rw [h] at hp; exact hp.elim
   | some k =>
    rw [h] at hp
    obtain ⟨c,ws,rfl,hl,_,hr⟩:=rb
    obtain ⟨e,he,hk⟩:=mem_any (A:=B.A.in1) h ra hr hs hbk (by show B.A.units+1+12<cLine; lia)
    refine in_listAt e (isList_up hs hl) (fun y hy=>he y (List.mem_toArray.1 hy)) ?_
    rw [List.any_toArray,hk]
    exact hp.ok (.refl hs) (repBool _ _)
  | _=>exact (hz hp).elim
 | notIn =>
  cases y with
  | bytes l=>exact onI_k (Z:=Z) (P:=fun x=>Rep H x a→wpAny (model prog w) B.A (compareOp .NotIn a b) Q E s) hz hp (fun n hp ra=>when_k (Z:=Z) hz hp fun hz hp=>by
    obtain ⟨t,rfl⟩:=ra
    obtain ⟨c,u,rfl,e,_⟩:=rb
    refine notIn_gives (typeIs_bytes s c u) FB.slot_bytes_contains FB.entry_bytes_contains (FB.args_bytes_contains_2 _ _) (gives_contains c u n t hz.1 hz.2) ?_
    rw [contains_int e hz.1 hz.2]
    exact hp.ok (.refl hs) (repBool _ _)) ra
  | tuple l =>
   have hp:Post Rep (B.fenv::B.outer) H s ((ofO ((memD 12 x l).map (!·))).bind fun r=>.ok (.bool r)) Q E:=hp
   cases h:memD 12 x l with
   | none=>rw [h] at hp; exact hp.elim
   | some k =>
    rw [h] at hp
    obtain ⟨c,ws,rfl,hl,_,hr⟩:=rb
    obtain ⟨e,he,hk⟩:=mem_any (A:=B.A.in1) h ra hr hs hbk (by show B.A.units+1+12<cLine; lia)
    refine notIn_tupleAt e (isTuple_up hs hl) (fun y hy=>he y (List.mem_toArray.1 hy)) ?_
    rw [List.any_toArray,hk]
    exact hp.ok (.refl hs) (repBool _ _)
  | list l =>
   have hp:Post Rep (B.fenv::B.outer) H s ((ofO ((memD 12 x l).map (!·))).bind fun r=>.ok (.bool r)) Q E:=hp
   cases h:memD 12 x l with
   | none=>rw [h] at hp; exact hp.elim
   | some k =>
    rw [h] at hp
    obtain ⟨c,ws,rfl,hl,_,hr⟩:=rb
    obtain ⟨e,he,hk⟩:=mem_any (A:=B.A.in1) h ra hr hs hbk (by show B.A.units+1+12<cLine; lia)
    refine notIn_listAt e (isList_up hs hl) (fun y hy=>he y (List.mem_toArray.1 hy)) ?_
    rw [List.any_toArray,hk]
    exact hp.ok (.refl hs) (repBool _ _)
  | _=>exact (hz hp).elim
end
end Mine
namespace Mine
open PySem PySem.W PySem.SeqAt PyProof.Rows
theorem sub_plain {slice:Expr} (h:notSlice slice=true) (o i:Value):subscripted slice false o i=operate [o,i] (getItem o i):=by
 cases slice <;> first | rfl | cases h
section
variable {prog:Program} {w:World} {Γ:Ct} {B:Bl}
theorem item_any {H:Heap} {s:Shared} {A:Around} {fr:List Env} {value slice:Expr} {x y:PV} {a b:Value} {Q E:Value→Shared→Prop} (hs:H.StaysIn s.heap) (ra:Rep H x a) (rb:Rep H y b)
  (hn:notSlice slice=true) (hp:Post Rep fr H s (idxP x y) Q E):wpAny (model prog w) A (subscriptTail value slice a b) Q E s:=by
 cases x <;> cases y <;> try exact hp.elim
 ·rename_i l i
  simp only [idxP] at hp
  split at hp
  ·rename_i h0
   cases hi:l[i.toNat]? with
   | none=>rw [hi] at hp; exact hp.elim
   | some n =>
    rw [hi] at hp
    obtain ⟨c,t,rfl,e,hz⟩:=rep_bytes ra
    obtain ⟨u,rfl⟩:=rep_int rb
    have hlt:=(List.getElem?_eq_some_iff.1 hi).1
    have hc:c.toList.length=l.length:=by rw [← e]; simp [bInt]
    have e':c.toList.toArray=c:=Array.toArray_toList
    refine tail_any (T := "bytes") (typeIs_bytes s c t) FB.slot_bytes_getitem.lookup ?_ (sub_plain hn _ _)
    rw [← e']
    refine getItem_bytes (by lia) h0 (by lia) ?_
    have:((c.toList.getD i.toNat 0).toNat:Int)=n:=by
     have h3:i.toNat<c.toList.length:=by lia
     subst e
     simp only [bInt,List.getElem?_map,List.getElem?_eq_getElem h3,Option.map_some,Option.some.injEq] at hi
     rw [List.getD_eq_getElem?_getD,List.getElem?_eq_getElem h3]; exact hi
    rw [this]
    exact hp.ok (.refl hs) (repInt _ _ _)
  ·exact hp.elim
 ·rename_i l i
  obtain ⟨c,ws,rfl,hl,hz,hr⟩:=rep_tuple ra
  obtain ⟨u,rfl⟩:=rep_int rb
  have hlen:=hr.length
  simp only [idxP] at hp
  split at hp
  ·rename_i h0
   cases hi:l[i.toNat]? with
   | none=>rw [hi] at hp; exact hp.elim
   | some p =>
    rw [hi] at hp
    obtain ⟨v,hv,hrv⟩:=hr.get hi
    have hlt:=(List.getElem?_eq_some_iff.1 hv).1
    refine item_tupleT (l:=ws) (j:=i.toNat) (isTuple_up hs hl) (by lia) (by lia) ?_ hv (hp.ok (.refl hs) hrv) (sub_plain hn _ _)
    have h1:¬ i<0:=by lia
    have h2:i<ws.length:=by lia
    simp [seqIndex?,h1,h0,h2]
  ·split at hp
   ·rename_i h0 h1
    cases hi:l[((l.length:Int)+i).toNat]? with
    | none=>rw [hi] at hp; exact hp.elim
    | some p =>
     rw [hi] at hp
     obtain ⟨v,hv,hrv⟩:=hr.get hi
     have hlt:=(List.getElem?_eq_some_iff.1 hv).1
     refine item_tupleT (l:=ws) (j:=((l.length:Int)+i).toNat) (isTuple_up hs hl) (by lia) (by lia) ?_ hv (hp.ok (.refl hs) hrv) (sub_plain hn _ _)
     have h2:i<0:=by lia
     rw [← hlen]
     have h3:0≤i+(ws.length:Int):=by lia
     simp [seqIndex?,h2,h3]
     refine ⟨by lia,by lia⟩
   ·exact hp.elim
 ·rename_i l i
  obtain ⟨c,ws,rfl,hl,hz,hr⟩:=rep_list ra
  obtain ⟨u,rfl⟩:=rep_int rb
  have hlen:=hr.length
  simp only [idxP] at hp
  split at hp
  ·rename_i h0
   cases hi:l[i.toNat]? with
   | none=>rw [hi] at hp; exact hp.elim
   | some p =>
    rw [hi] at hp
    obtain ⟨v,hv,hrv⟩:=hr.get hi
    have hlt:=(List.getElem?_eq_some_iff.1 hv).1
    refine tail_any (T := "list") (isList_up hs hl).typeIs slot_list_getitem.lookup (wpAny_getItem_list (isList_up hs hl) h0 (by lia) (by simpa using hv) (hp.ok (.refl hs) hrv)) (sub_plain hn _ _)
  ·exact hp.elim
theorem se_idx {v i:Expr} {pos:Pos} {f g:List Slot→Res PV} (hv:SE prog w Γ B v f) (hi:SE prog w Γ B i g) (hn:notSlice i=true) :
  SE prog w Γ B (.Subscript v i pos) (fun ρ=>(f ρ).bind fun x=>(g ρ).bind fun y=>idxP x y):=by
 intro H ρ s Q E hs hp
 refine Subscript_ (hv H ρ s _ _ hs (Post.bind hp fun x a s₁ H₁ _ e₁ ra hp₁=>?_))
 refine hi H₁ ρ s₁ _ _ (hs.ext e₁) (Post.bind hp₁ fun y b s₂ H₂ _ e₂ rb hp₂=>?_)
 exact item_any ((hs.ext e₁).ext e₂).stays (ra.mono e₂.grow) rb hn hp₂
theorem cut_clip {α:Type} (l:List α) (lo hi:Option Int) (h0:∀ a,lo=some a→0≤a) (h1:∀ a,hi=some a→0≤a) :
  (l.drop (lo.elim 0 (clipAt l.length))).take (hi.elim l.length (clipAt l.length) - lo.elim 0 (clipAt l.length))=cutL l lo hi:=by
 have key:∀ (a h:Nat),(l.drop (min a l.length)).take (min h l.length - min a l.length)=(l.take h).drop a:=by
  intro a h
  apply List.ext_getElem?
  intro i
  rw [List.getElem?_take,List.getElem?_drop,List.getElem?_drop,List.getElem?_take]
  by_cases ha:a≤l.length
  ·rw [Nat.min_eq_left ha]
   split <;> split <;> first | rfl | lia | (rw [List.getElem?_eq_none]; lia) | skip
  ·split <;> split <;> first | rfl | lia | skip
   ·rw [List.getElem?_eq_none (by lia)]
 have c:∀ a:Int,0≤a→clipAt l.length a=min a.toNat l.length:=fun a ha=>by
  obtain ⟨n,rfl⟩:=Int.eq_ofNat_of_zero_le ha
  rw [clipAt_nat]; rfl
 unfold cutL
 cases lo with
 | none =>
  cases hi with
  | none=>simp
  | some h =>
   have:=key 0 h.toNat
   simp only [Option.elim,c h (h1 h rfl)]
   simpa using this
 | some a =>
  cases hi with
  | none =>
   have:=key a.toNat l.length
   simp only [Option.elim,c a (h0 a rfl)]
   simpa using this
  | some h =>
   simp only [Option.elim,c a (h0 a rfl),c h (h1 h rfl)]
   exact key a.toNat h.toNat
noncomputable def RepO (H:Heap):Option PV→Value→Prop
 | none,v=>v=.none
 | some p,v=>Rep H p v
theorem RepO.mono {H H':Heap} (h:H.StaysIn H') {p:Option PV} {v:Value} (x:RepO H p v):RepO H' p v:=by
 cases p with
 | none=>exact x
 | some p=>exact Rep.mono h x
noncomputable def SP (prog:Program) (w:World) (Γ:Ct) (B:Bl) (e:Option Expr) (f:List Slot→Res (Option PV)):Prop :=
 ∀ H ρ s (Q E:Value→Shared→Prop),St Γ B H ρ s→Post RepO (B.fenv::B.outer) H s (f ρ) Q E→wpAny (model prog w) B.A (evalPart e B.env) Q E s
theorem sp_none:SP prog w Γ B none (fun _=>.ok none):=by
 intro H ρ s Q E hs hp
 rw [evalPart_none]
 exact wpAny_pure (hp.ok (.refl hs.stays) rfl)
theorem sp_some {e:Expr} {f:List Slot→Res PV} (h:SE prog w Γ B e f):SP prog w Γ B (some e) (fun ρ=>(f ρ).bind fun v=>.ok (some v)):=by
 intro H ρ s Q E hs hp
 rw [evalPart_some]
 refine h H ρ s _ _ hs (Post.bind hp fun x a s₁ H₁ _ e₁ ra hp₁=>?_)
 exact hp₁.ok (.refl (hs.ext e₁).stays) ra
theorem part_of {H:Heap} {p:Option PV} {v:Value} {l:Option Int} (r:RepO H p v) (h:endP p=.ok l):IsPart v l∧∀ a,l=some a→0≤a:=by
 cases p with
 | none=>cases h; cases r; exact ⟨.none,by simp⟩
 | some p =>
  cases p <;> simp only [endP,reduceCtorEq] at h
  split at h
  ·rename_i h0
   cases h
   obtain ⟨t,rfl⟩:=rep_int (H:=H) r
   exact ⟨.int _ _,fun a e=>by cases e; exact h0⟩
  ·cases h
theorem adjust_upto (b n:Nat) (hb:b≤n):Builtin.Slice.sliceAdjust none (some (b:Int)) 1 (n:Int)=(0,(b:Int)):=by
 unfold Builtin.Slice.sliceAdjust
 have h1:¬ ((1:Int)<0):=by lia
 have h2:¬ ((b:Int)<0):=by lia
 simp only [h1,h2,if_false]
 congr 1
 lia
theorem places_upto (b:Nat):Builtin.Slice.slicePlaces 0 (b:Int) 1=b:=by
 unfold Builtin.Slice.slicePlaces
 have h1:(1:Int) > 0:=by lia
 simp only [h1,if_true,Int.ediv_one]
 split <;> lia
theorem sliceApplied_upto {A:Around} {E:Value→Shared→Prop} {s:Shared} {sl:Addr} {b n:Nat} {u:Tok} {Q:Int × Int × Nat→Shared→Prop} (hs:s.heap.IsSliceOf sl .none (.int b u) .none) (hb:b≤n) (h:Q (0,1,b) s) :
  wpAny (model prog w) A (Builtin.Slice.sliceApplied (.ref sl) (pure (n:Int))) Q E s:=by
 obtain ⟨os,hos,hcs,hds⟩:=id hs
 unfold Builtin.Slice.sliceApplied Builtin.Slice.sliceFields
 refine wpAny_bind (wpAny_bind (wpAny_field hos hds (x:=.none) rfl (wpAny_bind (wpAny_field hos hds (x:=.int b u) rfl (wpAny_bind (wpAny_field hos hds (x:=.none) rfl (wpAny_pure ?_)))))))
 refine wpAny_bind (slicePart_none ?_)
 show wpAny _ _ (if ((1:Int) == 0)=true then _ else _) _ _ s
 rw [if_neg (by decide)]
 refine wpAny_bind (slicePart_none (wpAny_bind (slicePart_int (wpAny_bind (wpAny_pure ?_)))))
 show wpAny _ _ (match Builtin.Slice.sliceAdjust none (some (b:Int)) 1 (n:Int) with | (lo,hi)=>pure (lo,(1:Int),Builtin.Slice.slicePlaces lo hi 1)) _ _ s
 rw [adjust_upto b n hb]
 show wpAny _ _ (pure ((0:Int),(1:Int),Builtin.Slice.slicePlaces 0 (b:Int) 1)) _ _ s
 rw [places_upto b]
 exact wpAny_pure h
theorem pick_upto (xs:Array Value) (b:Nat):((List.range b).filterMap fun (k:Nat)=>xs[((0:Int)+(k:Int) * 1).toNat]?).toArray=(xs.toList.take b).toArray:=by
 have e:(fun (k:Nat)=>xs[((0:Int)+(k:Int) * 1).toNat]?)=fun k=>xs[0+k]?:=by
  funext k
  have:((0:Int)+(k:Int) * 1).toNat=0+k:=by lia
  rw [this]
 rw [e]
 have:=pick_run xs 0 b
 rw [List.filterMap_map] at this
 have e2:((fun x=>xs[x]?) ∘ fun x=>0+x)=fun k=>xs[0+k]?:=rfl
 rw [e2] at this
 rw [this,List.drop_zero]
theorem getItem_tuple_upto {A:Around} {E:Value→Shared→Prop} {s:Shared} {t sl:Addr} {items:Array Value} {b:Nat} {u:Tok} {Q:Value→Shared→Prop} (ht:IsTup s.heap t items) (hs:s.heap.IsSliceOf sl .none (.int b u) .none) (hb:b<items.size)
  (h : Q (.ref s.heap.objs.size) { s with heap := s.heap.push { cls := .type "tuple",data := .seq (items.toList.take b).toArray } })
  (hsz:items.size≤sizeLine):wpAny (model prog w) A (getItem (.ref t) (.ref sl)) Q E s:=by
 have hdrop:sizeOk (.seq (items.toList.take b).toArray):=by
  show (items.toList.take b).toArray.size≤sizeLine
  rw [List.size_toArray,List.length_take,Array.length_toList]
  lia
 obtain ⟨os,hos,hcs,hds⟩:=id hs
 have hTs : s.TypeIs (.ref sl) "slice" := ⟨os,hos,hcs⟩
 unfold getItem
 try with_reducible refine wpAny_holding ?_
 first | refine wpAny_bind (wpAny_pure ?_) | skip
 refine wpAny_bind (wpAny_sequenceKey ht.typeIs (by decide) ?_)
 refine wpAny_bind (wpAny_callSpecial?_slot (name := Str.ofString "__getitem__") ht.typeIs slot_tuple_getitem
  (wpAny_call_entry slot_tuple_getitem ht.typeIs entry_tuple_getitem ?_ (args_tuple_getitem _ _)))
 show wpAny _ _ (Builtin.Tuple.tupleItemsOf (.ref t) >>= _) _ _ s
 refine wpAny_bind (tupleItemsOf_ ht ?_)
 refine wpAny_bind (wpAny_typeOf hTs ?_)
 rw [if_pos (by decide)]
 refine wpAny_bind (sliceApplied_upto hs (Nat.le_of_lt hb) ?_)
 have hno:¬ (((0:Int) == 0 && (1:Int) == 1 && b == items.size)=true):=by
  have:(b == items.size)=false:=by rw [beq_eq_false_iff_ne]; lia
  rw [this]; simp
 show wpAny _ _ (if ((0:Int) == 0 && (1:Int) == 1 && b == items.size)=true then _ else _) _ _ s
 rw [if_neg hno,pick_upto items b]
 first
  | exact wpAny_bind (m:=Builtin.Tuple.tupleExact _) (wpAny_newObj_type (wpAny_pure ⟨_,rfl,wpAny_pure h⟩) hdrop)
  | exact wpAny_bind (m:=Builtin.Tuple.tupleExact _) (wpAny_newObj_type (wpAny_bind (wpAny_pure (wpAny_pure ⟨_,rfl,wpAny_pure h⟩))) hdrop)
  | exact wpAny_bind (wpAny_bind (m:=Builtin.Tuple.tupleExact _) (wpAny_newObj_type (wpAny_pure (wpAny_pure ⟨_,rfl,wpAny_pure h⟩)) hdrop))
  | exact wpAny_bind (wpAny_bind (m:=Builtin.Tuple.tupleExact _) (wpAny_newObj_type (wpAny_pure ⟨_,rfl,wpAny_pure h⟩) hdrop))
theorem cutL_len {α:Type} (l:List α) (lo hi:Option Int):(cutL l lo hi).length≤l.length:=by
 unfold cutL
 cases lo <;> cases hi <;> simp <;> lia
theorem slice_any {H:Heap} {s:Shared} {A:Around} {fr:List Env} {value:Expr} {eo eh:Option Expr} {p:Pos} {x:PV} {a vl vh:Value} {lo hi:Option Int} {Q E:Value→Shared→Prop} (hs:H.StaysIn s.heap) (ra:Rep H x a)
  (pl:IsPart vl lo) (ph:IsPart vh hi) (h0:∀ a,lo=some a→0≤a) (h1:∀ a,hi=some a→0≤a) (hp:Post Rep fr H s (slcP x lo hi) Q E) :
  wpAny (model prog w) A (subscriptTail value (.Slice eo eh none p) a (.ref s.heap.objs.size)) Q E { s with heap := s.heap.push { cls := .type "slice",data := .fields #[vl,vh,.none] } } := by
 have ex : Ext H s H { s with heap := s.heap.push { cls := .type "slice",data := .fields #[vl,vh,.none] } } := Ext.push hs { cls := .type "slice",data := .fields #[vl,vh,.none] }
 have hs':=ex.stays
 replace hp:=hp.ext ex
 cases x <;> try exact hp.elim
 ·rename_i l
  obtain ⟨c,t,rfl,e,hz⟩:=rep_bytes ra
  have hk:=KBc.ints_picked (show KBw.bInts c=l from e) lo hi
  rw [cut_clip l lo hi h0 h1] at hk
  have hlen:(KBy.picked c lo hi).size=(cutL l lo hi).length:=by rw [← hk,KBw.ints_length]
  have hle:=cutL_len l lo hi
  refine tail_any (T := "bytes") (typeIs_bytes _ c t) FB.slot_bytes_getitem.lookup ?_ rfl
  refine getItem_meets (typeIs_bytes _ _ _) (by decide) FB.slot_bytes_getitem FB.entry_bytes_getitem (FB.args_bytes_getitem_2 _ _) (KBc.meets_slice2 c t _ pl ph)
   ⟨Heap.IsSliceOf.new _ _ _ _,by rw [hlen]; exact lim_line (by unfold lim; lia),fun t' k=>hp.ok (.refl hs') (repBytes _ _ hk (by unfold lim; lia))⟩
 ·rename_i l
  obtain ⟨c,ws,rfl,hl,hz,hr⟩:=rep_tuple ra
  cases lo with
  | some _=>exact hp.elim
  | none =>
   cases hi with
   | none=>exact hp.elim
   | some h =>
    simp only [slcP] at hp
    split at hp
    ·rename_i hlt
     cases pl
     cases ph with
     | int _ u =>
     have h1':=h1 h rfl
     obtain ⟨n,rfl⟩:=Int.eq_ofNat_of_zero_le h1'
     have hlen:=hr.length
     have hlt:n<l.length:=hlt
     have ht:=isTuple_up hs' hl
     refine tail_any (T := "tuple") (IsTup.typeIs (s := { s with heap := _ }) ht) slot_tuple_getitem.lookup ?_ rfl
     refine getItem_tuple_upto (s:={ s with heap:=_ }) (b:=n) (u:=u) (items:=ws.toArray) ht (Heap.IsSliceOf.new _ _ _ _) (by simpa [hlen] using hlt) ?_ (by simp [hlen]; exact lim_line hz)
     obtain ⟨H',ex',hg⟩ := made (s := { s with heap := _ }) hs' (T := "tuple") (ws := ws.take n)
     refine hp.ok (ex' _ ⟨rfl,rfl,rfl⟩) ?_
     rw [Rep]
     exact ⟨_,_,rfl,⟨_,hg,rfl,_,rfl⟩,by simp; lia,(hr.take n).mono (ex' { s with heap:=Heap.push (Heap.push _ _) _ } ⟨rfl,rfl,rfl⟩).grow⟩
    ·exact hp.elim
 ·rename_i l
  obtain ⟨c,ws,rfl,hl,hz,hr⟩:=rep_list ra
  have hlen:=hr.length
  have ht:=isList_up hs' hl
  refine tail_any (T := "list") (Heap.IsList.typeIs (s := { s with heap := _ }) ht) slot_list_getitem.lookup ?_ rfl
  refine wpAny_getItem_list_slice (s:={ s with heap:=_ }) (items:=ws.toArray) ht (Heap.IsSliceOf.new _ _ _ _) pl ph .none (by simp) ?_ (by simp [hlen]; exact lim_line hz)
  have hcut:slicePick ws.toArray lo hi none=(cutL ws lo hi).toArray:=by
   rw [slicePick_plain]
   have:=cut_clip ws lo hi h0 h1
   simpa using this
  rw [hcut]
  obtain ⟨H',ex',hg⟩ := made (s := { s with heap := _ }) hs' (T := "list") (ws := cutL ws lo hi)
  refine hp.ok (ex' _ ⟨rfl,rfl,rfl⟩) ?_
  have hle:=cutL_len l lo hi
  rw [Rep]
  refine ⟨_,_,rfl,⟨_,hg,rfl,_,rfl⟩,by lia,?_⟩
  refine RepL.mono (ex' { s with heap:=Heap.push (Heap.push _ _) _ } ⟨rfl,rfl,rfl⟩).grow ?_
  unfold cutL
  cases lo <;> cases hi <;> first | exact hr.drop _ | exact (hr.take _).drop _
theorem se_slc {v:Expr} {eo eh:Option Expr} {p pos:Pos} {f:List Slot→Res PV} {g h:List Slot→Res (Option PV)} (hv:SE prog w Γ B v f) (hl:SP prog w Γ B eo g) (hh:SP prog w Γ B eh h) :
  SE prog w Γ B (.Subscript v (.Slice eo eh none p) pos) (fun ρ=>(f ρ).bind fun x=>(g ρ).bind fun l=>(h ρ).bind fun h=>(endP l).bind fun l'=>(endP h).bind fun h'=>slcP x l' h'):=by
 intro H ρ s Q E hs hp
 refine Subscript_ (hv H ρ s _ _ hs (Post.bind hp fun x a s₁ H₁ _ e₁ ra hp₁=>?_))
 refine wpAny_Slice (hl H₁ ρ s₁ _ _ (hs.ext e₁) (Post.bind hp₁ fun y b s₂ H₂ _ e₂ rb hp₂=>?_))
 refine hh H₂ ρ s₂ _ _ ((hs.ext e₁).ext e₂) (Post.bind hp₂ fun z c s₃ H₃ _ e₃ rc hp₃=>?_)
 rw [evalPart_none]
 refine wpAny_pure ?_
 cases h1:endP y with
 | stuck=>rw [h1] at hp₃; exact hp₃.elim
 | exc=>cases y with
  | none=>cases h1
  | some y=>cases y <;> simp only [endP,reduceCtorEq] at h1; split at h1 <;> cases h1
 | ok l' =>
  rw [h1] at hp₃
  cases h2:endP z with
  | stuck=>simp only [h2,Res.bind] at hp₃; exact hp₃.elim
  | exc=>cases z with
   | none=>cases h2
   | some z=>cases z <;> simp only [endP,reduceCtorEq] at h2; split at h2 <;> cases h2
  | ok h' =>
   simp only [h2,Res.bind] at hp₃
   obtain ⟨q1,q2⟩:=part_of (rb.mono e₃.grow) h1
   obtain ⟨q3,q4⟩:=part_of rc h2
   exact slice_any (((hs.ext e₁).ext e₂).ext e₃).stays ((ra.mono e₂.grow).mono e₃.grow) q1 q3 q2 q4 hp₃
end
end Mine
namespace Mine
open PySem PySem.W PySem.SeqAt PyProof.Rows
noncomputable def tyOf:PV→String
 | .none => "NoneType"
 | .bool _ => "bool"
 | .int _ => "int"
 | .flt _ => "float"
 | .str _ => "str"
 | .bytes _ => "bytes"
 | .tuple _ => "tuple"
 | .list _ => "list"
 | .dict0 => "dict"
theorem typeIs_of {H:Heap} {p:PV} {v:Value} {s:Shared} (hs:H.StaysIn s.heap) (r:Rep H p v):s.TypeIs v (tyOf p):=by
 cases p <;> rw [Rep] at r
 ·subst r; rfl
 ·subst r; rfl
 ·obtain ⟨t,rfl⟩:=r; exact typeIs_int s _ t
 ·obtain ⟨t,rfl,_⟩:=r; rfl
 ·obtain ⟨x,t,rfl,_⟩:=r; exact typeIs_str s x t
 ·obtain ⟨x,t,rfl,_⟩:=r; exact typeIs_bytes s x t
 ·obtain ⟨a,ws,rfl,⟨o,e,c,_⟩,_⟩:=r; exact ⟨o,hs _ _ e,c⟩
 ·obtain ⟨a,ws,rfl,⟨o,e,c,_⟩,_⟩:=r; exact ⟨o,hs _ _ e,c⟩
 ·obtain ⟨a,o,n,rfl,e,c,_⟩:=r; exact ⟨o,hs _ _ e,c⟩
theorem frag_nil (h:Heap):Frag.In [] h:=fun a o e=>by cases e
theorem kit_of {H : Heap} {p : PV} {v : Value} {s : Shared} (hs : H.StaysIn s.heap) (r : Rep H p v) : ∃ P : Heap → Prop,KitX [] v (.type (tyOf p)) P ∧ P s.heap ∧ v ≠ .builtin "__main__.__loader__#opaque" := by
 cases p <;> rw [Rep] at r
 ·subst r; exact ⟨_,kitx_none,trivial,nofun⟩
 ·subst r; exact ⟨_,kitx_bool,trivial,nofun⟩
 ·obtain ⟨t,rfl⟩:=r; exact ⟨_,kitx_int,trivial,nofun⟩
 ·obtain ⟨t,rfl,_⟩:=r; exact ⟨_,kitx_float,trivial,nofun⟩
 ·obtain ⟨x,t,rfl,_⟩:=r; exact ⟨_,kitx_str,trivial,nofun⟩
 ·obtain ⟨x,t,rfl,_⟩:=r; exact ⟨_,kitx_bytes,trivial,nofun⟩
 ·obtain ⟨a,ws,rfl,⟨o,e,c,_⟩,_⟩:=r; exact ⟨_,kitx_tuple,⟨o,hs _ _ e,c⟩,nofun⟩
 ·obtain ⟨a,ws,rfl,⟨o,e,c,_⟩,_⟩:=r; exact ⟨_,kitx_list,⟨o,hs _ _ e,c⟩,nofun⟩
 ·obtain ⟨a,o,n,rfl,e,c,_⟩:=r; exact ⟨_,kitx_dict,⟨o,hs _ _ e,c⟩,nofun⟩
theorem kit_one (p:PV) (t:Ty) (h:isBool p=false):kitOne [] (.type (tyOf p)) (.type (tyName t))=some (isP p t):=by
 cases p <;> cases t <;> first | (cases h; done) | (simp only [tyOf,tyName,isP]; decide +kernel)
theorem kit_any (p:PV) (h:isBool p=false):∀ ts:List Ty,kitAny [] (.type (tyOf p)) (ts.map fun t=>Value.type (tyName t))=some (ts.any (isP p))
 | []=>rfl
 | t::r=>by
  rw [List.map_cons,kitAny,kit_one p t h,List.any_cons]
  cases isP p t
  ·simpa using kit_any p h r
  ·rfl
theorem boot_ty (t:Ty):bootBuiltins (Str.ofString (tyName t))=some (.type (tyName t)):=by cases t <;> kernel_rfl
theorem words_ty (t:Ty):Str.ofString (tyName t)∈words:=by cases t <;> decide
section
variable {prog:Program} {w:World} {Γ:Ct} {B:Bl}
theorem word_split {N : Nm} {x : Str} {s : String} (h : N.isWord x s = true) : x = Str.ofString s ∧ N.names.lookup x = some .globalImplicit ∧ (x == ("__debug__" : Str)) = false := by
 unfold Nm.isWord at h
 rw [Bool.and_eq_true] at h
 exact ⟨by simpa using h.1,glob_names h.2⟩
theorem call1_b {d : Nat} (hΓ : Γ.Ok) (hB : B.Ok d) {x : Str} {xp pos : Pos} {e : Expr} {id : String} (hx : x ∈ words) (hb : bootBuiltins x = some (.builtin id)) (hk : B.env.kindOf x = some .globalImplicit) (hd : (x == ("__debug__" : Str)) = false) (hst : notStar e = true)
  {H:Heap} {ρ:List Slot} {s:Shared} {Q E:Value→Shared→Prop} (hs:St Γ B H ρ s) (h:wpAny (model prog w) B.A (eval e B.env) (fun v s₁=>wpAny (model prog w) B.A (call (.builtin id) [v]) Q E s₁) E s) :
  wpAny (model prog w) B.A (eval (.Call (.Name x xp) [e] [] pos) B.env) Q E s:=by
 refine Call_Name rfl (word_name hΓ hB hk hd hx hb hs ?_)
 have htr:backTo pos (starEach [e] B.env)=[(false,eval e B.env)]:=by rw [starEach_cons hst]; rfl
 rw [htr]
 exact Calls.callWith_builtin rfl (Calls.evalArgs_plain (Calls.spliced_cons (wpAny_mono h (fun v s₁ h₁=>Calls.spliced_nil h₁) fun _ _ z=>z)))
theorem call1_t {d : Nat} (hΓ : Γ.Ok) (hB : B.Ok d) {x : Str} {xp pos : Pos} {e : Expr} {id : String} (hx : x ∈ words) (hb : bootBuiltins x = some (.type id)) (hk : B.env.kindOf x = some .globalImplicit) (hd : (x == ("__debug__" : Str)) = false) (hst : notStar e = true)
  {H:Heap} {ρ:List Slot} {s:Shared} {Q E:Value→Shared→Prop} (hs:St Γ B H ρ s) (h:wpAny (model prog w) B.A (eval e B.env) (fun v s₁=>wpAny (model prog w) B.A (call (.type id) [v]) Q E s₁) E s) :
  wpAny (model prog w) B.A (eval (.Call (.Name x xp) [e] [] pos) B.env) Q E s:=by
 refine Call_Name rfl (word_name hΓ hB hk hd hx hb hs ?_)
 have htr:backTo pos (starEach [e] B.env)=[(false,eval e B.env)]:=by rw [starEach_cons hst]; rfl
 rw [htr]
 exact PySem.callWith_type rfl (Calls.evalArgs_plain (Calls.spliced_cons (wpAny_mono h (fun v s₁ h₁=>Calls.spliced_nil h₁) fun _ _ z=>z)))
theorem len_of {H:Heap} {s:Shared} {A:Around} {fr:List Env} {x:PV} {a:Value} {Q E:Value→Shared→Prop} (hs:H.StaysIn s.heap) (ra:Rep H x a) (hp:Post Rep fr H s (lenP x) Q E) :
  wpAny (model prog w) A (call (.builtin "len") [a]) Q E s := by
 cases x <;> try exact hp.elim
 ·obtain ⟨c,t,rfl,e,hz⟩:=rep_bytes ra
  have hl:=bInt_length c
  rw [e] at hl
  refine PySem.W.len_bytes (by lia) ?_
  rw [← hl]
  exact hp.ok (.refl hs) (repInt _ _ _)
 ·obtain ⟨c,ws,rfl,hl,hz,hr⟩:=rep_tuple ra
  have hlen:=hr.length
  refine len_tuple (isTuple_up hs hl) (by simp [hlen]; lia) ?_
  rw [show ws.toArray.size=_ from by simpa using hlen]
  exact hp.ok (.refl hs) (repInt _ _ _)
 ·obtain ⟨c,ws,rfl,hl,hz,hr⟩:=rep_list ra
  have hlen:=hr.length
  refine len_list (isList_up hs hl) (by simp [hlen]; lia) ?_
  rw [show ws.toArray.size=_ from by simpa using hlen]
  exact hp.ok (.refl hs) (repInt _ _ _)
theorem se_len {d : Nat} (hΓ : Γ.Ok) (hB : B.Ok d) {x : Str} {xp pos : Pos} {e : Expr} {f : List Slot → Res PV} (hx : x = Str.ofString "len") (hk : B.env.kindOf x = some .globalImplicit) (hd : (x == ("__debug__" : Str)) = false) (hst : notStar e = true)
  (he:SE prog w Γ B e f):SE prog w Γ B (.Call (.Name x xp) [e] [] pos) (fun ρ=>(f ρ).bind lenP):=by
 intro H ρ s Q E hs hp
 subst hx
 refine call1_b hΓ hB (id := "len") (by decide) (by kernel_rfl) hk hd hst hs (he H ρ s _ _ hs (Post.bind hp fun p v s₁ H₁ _ e₁ rr hp₁ => ?_))
 exact len_of (hs.ext e₁).stays rr hp₁
theorem se_len_var {d : Nat} (hΓ : Γ.Ok) (hB : B.Ok d) {x y : Str} {xp yp pos : Pos} {i : Nat} (hx : x = Str.ofString "len") (hk : B.env.kindOf x = some .globalImplicit) (hd : (x == ("__debug__" : Str)) = false)
  (hv : B.vs[i]? = some y) (hky : B.env.kindOf y = some .local) (hdy : (y == ("__debug__" : Str)) = false) :
  SE prog w Γ B (.Call (.Name x xp) [.Name y yp] [] pos) (fun ρ=>match getS ρ i with | .val v=>lenP v | .own l=>.ok (.int l.length) | .unset=>.stuck):=by
 intro H ρ s Q E hs hp
 cases hg:getS ρ i with
 | unset=>simp only [hg] at hp; exact hp.elim
 | val v =>
  refine se_len hΓ hB hx hk hd rfl (se_var hB hv hky hdy) H ρ s Q E hs ?_
  simp only [hg] at hp ⊢
  exact hp
 | own l =>
  simp only [hg] at hp
  subst hx
  refine call1_b hΓ hB (id := "len") (by decide) (by kernel_rfl) hk hd rfl hs ?_
  obtain ⟨m,oa,hn,hl,hN,hsl,hdd⟩:=hs.loc
  have h1:=hsl i y hv
  rw [hg] at h1
  obtain ⟨hz,ws,hm,ho,hr,_⟩:=h1
  refine wpAny_Name (wpAny_loadName_local hB.kind hky hn hm ?_) hdy
  have hlen:=hr.length
  have hz':l.length≤1048576:=hz
  refine len_list ho.list (by simp [hlen]; lia) ?_
  rw [show ws.toArray.size=_ from by simpa using hlen]
  exact hp.ok (.refl hs.stays) (repInt _ _ _)
theorem ty_name {d : Nat} (hΓ : Γ.Ok) (hB : B.Ok d) {y : Str} {yp : Pos} {t : Ty} (hy : y = Str.ofString (tyName t)) (hk : B.env.kindOf y = some .globalImplicit) (hd : (y == ("__debug__" : Str)) = false)
  {H:Heap} {ρ:List Slot} {s:Shared} (hs:St Γ B H ρ s) {Q E:Value→Shared→Prop} (h:Q (.type (tyName t)) s):wpAny (model prog w) B.A (eval (.Name y yp) B.env) Q E s:=by
 subst hy
 exact word_name hΓ hB hk hd (words_ty t) (boot_ty t) hs h
theorem se_isin1 {d : Nat} (hΓ : Γ.Ok) (hB : B.Ok d) {x y : Str} {xp yp pos : Pos} {e : Expr} {t : Ty} {f : List Slot → Res PV} (hx : x = Str.ofString "isinstance") (hk : B.env.kindOf x = some .globalImplicit) (hd : (x == ("__debug__" : Str)) = false)
  (hst : notStar e = true) (he : SE prog w Γ B e f) (hy : y = Str.ofString (tyName t)) (hky : B.env.kindOf y = some .globalImplicit) (hdy : (y == ("__debug__" : Str)) = false) :
  SE prog w Γ B (.Call (.Name x xp) [e,.Name y yp] [] pos) (fun ρ=>(f ρ).bind fun x=>if isBool x then .stuck else .ok (.bool (isP x t))):=by
 intro H ρ s Q E hs hp
 subst hx
 refine Call_Name rfl (word_name hΓ hB hk hd (by decide) (v := .builtin "isinstance") (by kernel_rfl) hs ?_)
 have htr:backTo pos (starEach [e,.Name y yp] B.env)=[(false,eval e B.env),(false,eval (.Name y yp) B.env)]:=by rw [starEach_cons hst]; rfl
 rw [htr]
 refine Calls.callWith_builtin rfl (Calls.evalArgs_plain (Calls.spliced_cons (he H ρ s _ _ hs (Post.bind hp fun p v s₁ H₁ _ e₁ rr hp₁=>?_))))
 have hs₁:=hs.ext e₁
 refine Calls.spliced_cons (ty_name hΓ hB hy hky hdy hs₁ (Calls.spliced_nil ?_))
 cases hb:isBool p with
 | true=>simp only [hb,if_true] at hp₁; exact hp₁.elim
 | false =>
  simp only [hb,Bool.false_eq_true,if_false] at hp₁
  obtain ⟨P,Z,hP,hne⟩:=kit_of hs₁.stays rr
  exact kia_one Z (frag_nil _) hP (kit_one p t hb) hne fun tk=>hp₁.ok (.refl hs₁.stays) (repBool _ _)
theorem ty_names {d:Nat} (hΓ:Γ.Ok) (hB:B.Ok d) {N:Nm} (hN:B.env.scope.names=N.names):∀ {es:List Expr} {ts:List Ty},chkTs N es ts=true→∀ {H:Heap} {ρ:List Slot} {s:Shared} {Q:List Value→Shared→Prop} {E:Value→Shared→Prop},St Γ B H ρ s →
  ∀ {pos:Pos},Q (ts.map fun t=>Value.type (tyName t)) s→wpAny (model prog w) B.A (spliced (backTo pos (starEach es B.env))) Q E s
 | es,[],hc,H,ρ,s,Q,E,hs,pos,h=>onL0_k (P:=fun es=>wpAny (model prog w) B.A (spliced (backTo pos (starEach es B.env))) Q E s) (by cases es <;> exact hc:onL0 es true=true) fun _=>Calls.spliced_nil h
 | [],_::_,h,_,_,_,_,_,_,_,_=>ff h
 | e::r,t::u,h,H,ρ,s,Q,E,hs,pos,hq =>
  onName_k (P:=fun e=>wpAny (model prog w) B.A (spliced (backTo pos (starEach (e::r) B.env))) Q E s) (show onName e _=true from h) fun y yp h=>by
   obtain ⟨h1,h2,h3⟩:=word_split (aL h)
   rw [starEach_cons rfl]
   show wpAny _ _ (spliced ((false,eval (.Name y yp) B.env)::backTo pos (starEach r B.env))) _ _ _
   refine Calls.spliced_cons (ty_name hΓ hB h1 (by unfold Env.kindOf; rw [hN]; exact h2) h3 hs ?_)
   exact ty_names hΓ hB hN (aR h) hs hq
theorem se_isin {d : Nat} (hΓ : Γ.Ok) (hB : B.Ok d) {N : Nm} (hN : B.env.scope.names = N.names) {x : Str} {xp tp pos : Pos} {k : Nat} {e : Expr} {es : List Expr} {ts : List Ty} {f : List Slot → Res PV} (hx : x = Str.ofString "isinstance") (hk : B.env.kindOf x = some .globalImplicit)
  (hd : (x == ("__debug__" : Str)) = false) (hst : notStar e = true) (he : SE prog w Γ B e f) (ht : chkTs N es ts = true) (hz : ts.length ≤ lim) :
  SE prog w Γ B (.Call (.Name x xp) [e,.Tuple es k tp] [] pos) (fun ρ=>(f ρ).bind fun x=>if isBool x then .stuck else .ok (.bool (ts.any (isP x)))):=by
 intro H ρ s Q E hs hp
 subst hx
 refine Call_Name rfl (word_name hΓ hB hk hd (by decide) (v := .builtin "isinstance") (by kernel_rfl) hs ?_)
 have htr:backTo pos (starEach [e,.Tuple es k tp] B.env)=[(false,eval e B.env),(false,eval (.Tuple es k tp) B.env)]:=by rw [starEach_cons hst]; rfl
 rw [htr]
 refine Calls.callWith_builtin rfl (Calls.evalArgs_plain (Calls.spliced_cons (he H ρ s _ _ hs (Post.bind hp fun p v s₁ H₁ _ e₁ rr hp₁=>?_))))
 have hs₁:=hs.ext e₁
 refine Calls.spliced_cons (Tuple_ (ty_names hΓ hB hN ht hs₁ ?_))
 refine wpAny_newObj_type (Calls.spliced_nil ?_) (by show (ts.map fun t=>Value.type (tyName t)).toArray.size≤sizeLine; simp; exact lim_line hz)
 cases hb:isBool p with
 | true=>simp only [hb,if_true] at hp₁; exact hp₁.elim
 | false =>
  simp only [hb,Bool.false_eq_true,if_false] at hp₁
  have ex : Ext H₁ s₁ H₁ { s₁ with heap := s₁.heap.push { cls := .type "tuple",data := .seq (ts.map fun t => Value.type (tyName t)).toArray } } := Ext.push hs₁.stays { cls := .type "tuple",data := .seq (ts.map fun t => Value.type (tyName t)).toArray }
  obtain ⟨P,Z,hP,hne⟩:=kit_of (s:={ s₁ with heap:=_ }) ex.stays rr
  exact kia_tup (s:={ s₁ with heap:=_ }) Z (frag_nil _) hP (Heap.get?_push_size _ rfl) (kit_any p hb ts) hne fun tk=>hp₁.ok (ex.trans (.refl ex.stays)) (repBool _ _)
theorem ints_are {H:Heap}:∀ {l:List PV} {ns:List Int} {ws:List Value},intsOf l=some ns→RepL H l ws→IntsAre ws ns
 | [],ns,ws,h,r=>by
  rw [RepL] at r; subst r; simp [intsOf] at h; subst h; exact .nil
 | p::t,ns,ws,h,r=>by
  rw [RepL] at r
  obtain ⟨v,u,rfl,rp,rt⟩:=r
  cases p <;> simp only [intsOf,reduceCtorEq] at h
  rename_i i
  cases ht:intsOf t with
  | none=>rw [ht] at h; cases h
  | some ms =>
   rw [ht] at h; cases h
   obtain ⟨tk,rfl⟩:=rep_int rp
   exact .cons i tk (ints_are ht rt)
theorem byteArr_int {ns:List Int} (h:∀ n∈ns,0≤n∧n<256):bInt (byteArr ns)=ns:=by
 unfold bInt byteArr
 rw [List.map_map]
 conv=>rhs; rw [← List.map_id ns]
 apply List.map_congr_left
 intro n hn
 have:=h n hn
 simp
 lia
theorem bytes_of {H:Heap} {s:Shared} {A:Around} (hh:A.handled=none) {fr:List Env} {x:PV} {a:Value} {Q E:Value→Shared→Prop} (hs:H.StaysIn s.heap) (ra:Rep H x a) (hp:Post Rep fr H s (bytesP x) Q E) :
  wpAny (model prog w) A (call (.type "bytes") [a]) Q E s := by
 cases x <;> try exact hp.elim
 rename_i l
 simp only [bytesP] at hp
 cases hi:intsOf l with
 | none=>rw [hi] at hp; exact hp.elim
 | some ns =>
  rw [hi] at hp
  simp only at hp
  split at hp
  ·rename_i hr
   obtain ⟨c,ws,rfl,hl,hz,hrl⟩:=rep_list ra
   have hia:=ints_are hi hrl
   have e1:=hrl.length
   have e2:ns.length=ws.length:=hia.length.symm
   refine call_bytes_ints (isList_up hs hl) hia hr (by rw [e1]; exact lim_line hz) hh fun h' t k hk=>hp.ok (.keeps hs hk) (repBytes _ _ (byteArr_int hr) (by rw [e2,e1]; exact hz))
  ·exact hp.elim
theorem se_mkBytes {d : Nat} (hΓ : Γ.Ok) (hB : B.Ok d) {x : Str} {xp pos : Pos} {e : Expr} {f : List Slot → Res PV} (hx : x = Str.ofString "bytes") (hk : B.env.kindOf x = some .globalImplicit) (hd : (x == ("__debug__" : Str)) = false) (hst : notStar e = true)
  (he:SE prog w Γ B e f):SE prog w Γ B (.Call (.Name x xp) [e] [] pos) (fun ρ=>(f ρ).bind bytesP):=by
 intro H ρ s Q E hs hp
 subst hx
 refine call1_t hΓ hB (id := "bytes") (by decide) (by kernel_rfl) hk hd hst hs (he H ρ s _ _ hs (Post.bind hp fun p v s₁ H₁ _ e₁ rr hp₁ => ?_))
 exact bytes_of hB.hand (hs.ext e₁).stays rr hp₁
theorem se_typeIs {d : Nat} (hΓ : Γ.Ok) (hB : B.Ok d) {x y : Str} {xp yp cp pos : Pos} {e : Expr} {t : Ty} {f : List Slot → Res PV} (hx : x = Str.ofString "type") (hk : B.env.kindOf x = some .globalImplicit) (hd : (x == ("__debug__" : Str)) = false)
  (hst : notStar e = true) (he : SE prog w Γ B e f) (hy : y = Str.ofString (tyName t)) (hky : B.env.kindOf y = some .globalImplicit) (hdy : (y == ("__debug__" : Str)) = false) :
  SE prog w Γ B (.Compare (.Call (.Name x xp) [e] [] cp) [.Is] [.Name y yp] pos) (fun ρ=>(f ρ).bind fun x=>.ok (.bool (isP x t))):=by
 intro H ρ s Q E hs hp
 subst hx
 refine wpAny_Compare1 ?_ rfl
 refine call1_t hΓ hB (id := "type") (by decide) (by kernel_rfl) hk hd hst hs (he H ρ s _ _ hs (Post.bind hp fun p v s₁ H₁ _ e₁ rr hp₁ => ?_))
 have hs₁:=hs.ext e₁
 refine call_type_of (typeIs_of hs₁.stays rr) (by cases p <;> (simp only [tyOf]; decide)) ?_
 refine ty_name hΓ hB hy hky hdy hs₁ ?_
 refine wpAny_is_plain rfl (hp₁.ok (.refl hs₁.stays) ?_)
 have:isP p t=(Value.type (tyOf p) == Value.type (tyName t)):=by cases p <;> cases t <;> (simp only [isP,tyOf,tyName]; decide)
 rw [this]; exact repBool _ _
theorem se_neg {i:Int} {k:Nat} {p pos:Pos} {n:Nat} (h:i=(n:Int)):SE prog w Γ B (.UnaryOp .USub (.Constant (.int i) k p) pos) (fun _=>.ok (.int (-(n:Int)))):=by
 intro H ρ s Q E hs hp
 subst h
 refine wpAny_UnaryOp ?_
 rw [eval_Constant]
 have key:wpAny (model prog w) B.A (unaryOp .USub (.int n s.toks)) Q E { s with toks:=s.toks+1 }:=P.neg_int (hp.ok (.refl hs.stays) (repInt _ _ _))
 exact fun _ _ _=>key
theorem se_dict0 (hΓ:Γ.Ok) {pos:Pos}:SE prog w Γ B (.Dict [] [] pos) (fun _=>.ok .dict0):=by
 intro H ρ s Q E hs hp
 refine wpAny_Dict_empty ?_
 obtain ⟨H',ex,hg⟩ := Ext.alloc hs.stays ({ cls := .type "dict",data := .dict #[] } : Obj) rfl
 refine hp.ok (ex _ ⟨rfl,rfl,rfl⟩) ?_
 rw [Rep]
 refine ⟨_,_,_,rfl,hg,rfl,rfl,rfl,?_,rfl⟩
 have h1:=(hΓ.g.keeps (stays_trans hs.base hs.stays)).lt
 rw [beq_eq_false_iff_ne]
 intro e
 rw [e] at h1
 exact absurd h1 (by decide)
theorem se_strFlt {a:Str} {b:UInt64} {k k' n:Nat} {p p' pos:Pos}:SE prog w Γ B (.Tuple [.Constant (.str a) k p,.Constant (.float b) k' p'] n pos) (fun _=>.ok (.tuple [.str a.cps.toList,.flt b])):=by
 intro H ρ s Q E hs hp
 refine Tuple_ ?_
 rw [starEach_cons rfl,starEach_cons rfl]
 show wpAny _ _ (spliced [(false,eval (.Constant (.str a) k p) B.env),(false,eval (.Constant (.float b) k' p') B.env)]) _ _ _
 have key:wpAny (model prog w) B.A (newTuple [.str a s.toks,.float b (s.toks+1)]) Q E { s with toks:=s.toks+1+1 }:=by
  refine tup_new (l:=[.str a.cps.toList,.flt b]) hs.stays ?_ (show 2≤lim by decide) (hp.ext (.refl hs.stays))
  rw [RepL]
  refine ⟨_,_,rfl,by rw [Rep]; exact ⟨a,_,rfl,rfl⟩,?_⟩
  exact RepL.one (by rw [Rep]; exact ⟨_,rfl,Nat.succ_ne_zero _⟩)
 have k2:wpAny (model prog w) B.A (eval (.Constant (.float b) k' p') B.env) (fun v s₁=>wpAny (model prog w) B.A (newTuple [.str a s.toks,v]) Q E s₁) E { s with toks:=s.toks+1 }:=by
  rw [eval_Constant]
  exact fun _ _ _=>key
 have k1:wpAny (model prog w) B.A (eval (.Constant (.str a) k p) B.env) (fun v₁ s₁=>wpAny (model prog w) B.A (eval (.Constant (.float b) k' p') B.env) (fun v s₂=>wpAny (model prog w) B.A (newTuple [v₁,v]) Q E s₂) E s₁) E s:=by
  rw [eval_Constant]
  exact fun _ _ _=>k2
 exact Calls.spliced_cons (wpAny_mono k1 (fun v s₁ h₁=>Calls.spliced_cons (wpAny_mono h₁ (fun v' s₂ h₂=>Calls.spliced_nil h₂) fun _ _ z=>z)) fun _ _ z=>z)
end
end Mine
namespace Mine
open PySem PySem.W PySem.SeqAt PyProof.Rows
open AutoSeq1 (wpAny_loadPart')
inductive BsAre:List Value→List (Array UInt8)→Prop
 | nil:BsAre [] []
 | cons (b:Array UInt8) (t:Tok) {vs bs}:BsAre vs bs→BsAre (.bytes b t::vs) (b::bs)
theorem take_eq {id:String} {b:Array UInt8} {t:Tok}:Builtin.Bytes.takeBufferQuiet? id (.bytes b t) 0=pure (some (b,none)):=by
 unfold Builtin.Bytes.takeBufferQuiet? Builtin.Bytes.takeBuffer?
 have e:((0:Int) == Builtin.Bytes.fullReadOnly)=false:=by decide +kernel
 rw [KBy.special_eq KBy.look_buffer,KBy.own_buffer,e,KBy.buffer_eq]
 kernel_rfl
theorem BsAre.get:∀ {vs:List Value} {bs:List (Array UInt8)} {i:Nat} {b:Array UInt8},BsAre vs bs→bs[i]?=some b→∃ t,vs[i]?=some (.bytes b t)
 | _,_,_,_,.nil,e=>by simp at e
 | _,_,0,_,.cons b t h,e=>by simp at e; subst e; exact ⟨t,by simp⟩
 | _,_,i+1,_,.cons b t h,e=>by simp at e; obtain ⟨u,hu⟩:=h.get e; exact ⟨u,by simpa using hu⟩
theorem BsAre.length:∀ {vs:List Value} {bs:List (Array UInt8)},BsAre vs bs→bs.length=vs.length
 | _,_,.nil=>rfl
 | _,_,.cons b t h=>by simp [h.length]
theorem letGo_none {M:Model} {A:Around} {E:Value→Shared→Prop} {s:Shared} {keep:List Value} {Q:Unit→Shared→Prop}:∀ {taken:List (Value × Option Value)},(∀ q∈taken,q.2=none)→Q () s→wpAny M A (Builtin.Bytes.joinLetGo taken keep) Q E s
 | [],_,h=>wpAny_pure h
 | (x,w)::r,hn,h=>by
  have hw:w=none:=hn (x,w) (by simp)
  subst hw
  unfold Builtin.Bytes.joinLetGo
  exact wpAny_bind (wpAny_letGo (letGo_none (fun q hq=>hn q (by simp [hq])) h))
theorem join_meets (sep:Array UInt8) (t:Tok) (l:Addr) (items:Array Value) (n:Nat) (dd:Option Addr) (sl:Array (Option Value)) (bs:List (Array UInt8)) (hb:BsAre items.toList bs)
  (hz:bs.foldl (fun x y=>x+y.size) (sep.size * (bs.length - 1))≤16777216) (hz2:(Builtin.Bytes.joined sep bs).size≤sizeLine) (hz1:bs.length=1→∀ b∈bs,Builtin.Bytes.joined sep bs=b) :
  Meets (Builtin.«bytes.join» ⟨[.bytes sep t,.ref l],[]⟩) (fun _ R s => s.heap.get? l = some { cls := .type "list",dict := dd,data := .seq items n,slots := sl } ∧
   ∀ t' k,R (.ok (.ret (.bytes (Builtin.Bytes.joined sep bs) t'))) { s with toks:=k }):=by
 refine .of_wp fun prog w A R s h=>?_
 obtain ⟨hl,h⟩:=h
 have hT : s.TypeIs (.ref l) "list" := ⟨_,hl,rfl⟩
 unfold Builtin.«bytes.join» Builtin.Bytes.joinM
 wp_walk using wpAny_loadPart' hl
 have hfin:∀ {b:Array (Array UInt8) × List (Value × Option Value)} {Q:PySem.Fin→Shared→Prop},b.1=bs.toArray→(∀ q∈b.2,q.2=none)→(∀ tk k,Q (.done (.ret (.bytes (Builtin.Bytes.joined sep bs) tk))) { s with toks:=k }) →
   wpAny (model prog w) A.in1 (do
    let sep ← Builtin.Bytes.payload (Value.bytes sep t)
    if Builtin.Bytes.tooLong (Array.foldl (fun x1 x2=>x1+x2.size) (sep.size * (b.1.size - 1)) b.1)=true then
     (unsupported (toString (toString Builtin.Bytes.Kind.bytes.name ++ toString ".join") ++ toString ":memory") : Sem PUnit)
    let result ← Builtin.Bytes.Kind.bytes.new (Builtin.Bytes.joined sep b.1.toList)
    holding (result::b.2.flatMap fun (y,u)=>y::u.toList) point
    Builtin.Bytes.joinLetGo b.2 [result]
    ret result) Q (fun e s'=>R (.error e) s') s:=by
  rintro ⟨b1,b2⟩ Q hb1 hb2 hq
  simp only at hb1 hb2
  subst hb1
  refine wpAny_bind (wpAny_of_eq (a:=sep) rfl ?_)
  have h1:Builtin.Bytes.tooLong (Array.foldl (fun x1 x2=>x1+x2.size) (sep.size * (bs.toArray.size - 1)) bs.toArray)=false:=by
   refine KBy.tooLong_not ?_
   simpa using hz
  simp only [h1,Bool.false_eq_true,if_false]
  refine wpAny_bind ?_
  show wpAny _ _ (mkBytes (Builtin.Bytes.joined sep bs)) _ _ _
  refine wpAny_mkBytes ?_ hz2
  refine wpAny_bind (wpAny_holding (wpAny_point ?_))
  refine wpAny_bind (letGo_none hb2 ?_)
  exact wpAny_pure (hq _ _)
 obtain ⟨vs⟩:=items
 have hlen:=hb.length
 match vs,hb,hl,hlen with
 | [],hb,hl,hlen =>
  cases hb
  show wpAny _ _ (forIn _ _ _ >>= _) _ _ _
  refine wpAny_bind ?_
  rw [Std.Legacy.Range.forIn_eq_forIn_range']
  show wpAny _ _ (forIn [] _ _) _ _ _
  rw [List.forIn_nil]
  refine wpAny_pure ?_
  exact hfin rfl (by simp) fun tk k=>⟨_,rfl,h tk k⟩
 | [x],hb,hl,hlen =>
  cases hb with
  | cons b u hb' =>
   cases hb'
   show wpAny _ _ (typeOf _ >>= _) _ _ _
   wp_walk using wpAny_loadPart' hl
   refine ⟨.bytes b u,rfl,?_⟩
   have e:=hz1 rfl b (by simp)
   have:=h u s.toks
   rw [e] at this
   exact this
 | x::y::r,hb,hl,hlen =>
  show wpAny _ _ (forIn _ _ _ >>= _) _ _ _
  refine wpAny_bind ?_
  rw [Std.Legacy.Range.forIn_eq_forIn_range']
  simp only [Std.Legacy.Range.size,Nat.sub_zero,Nat.add_sub_cancel,Nat.div_one]
  have hsz:(Array.mk (x::y::r)).size=bs.length:=by rw [hlen]; rfl
  refine wpAny_forIn_list _ (fun rest b s'=>∃ i,s'=s∧rest=List.range' i (bs.length - i)∧i≤bs.length∧b.1=(bs.take i).toArray∧(∀ q∈b.2,q.1.onHeap=false∧q.2=none)) _ ?_ ?_ _ _ ⟨0,rfl,by rw [hsz]; simp,by lia,by simp,by simp⟩
  ·rintro j rest ⟨b1,b2⟩ s' hI
   refine nc fun hG=>?_
   obtain ⟨i,es,hr,hi,hb1,hb2⟩:=hI
   simp only at hb1 hb2
   have hlt:i<bs.length:=by
    rcases Nat.lt_or_ge i bs.length with h | h
    ·exact h
    ·rw [Nat.sub_eq_zero_of_le h] at hr; simp at hr
   obtain ⟨ej,hrest⟩:j=i∧rest=List.range' (i+1) (bs.length - (i+1)):=by
    have e:bs.length - i=(bs.length - (i+1))+1:=by lia
    rw [e,List.range'_succ] at hr
    injection hr with h1 h2
    exact ⟨h1,h2⟩
   obtain ⟨u,hu⟩:=hb.get (List.getElem?_eq_getElem hlt)
   have hgd:(Array.mk (x::y::r)).getD j Value.none=.bytes bs[i] u:=by
    have:(Array.mk (x::y::r))[j]?=some (.bytes bs[i] u):=by rw [ej]; simpa using hu
    rw [Array.getD_eq_getD_getElem?,this]; rfl
   have hany:(Builtin.Bytes.Kind.bytes == Builtin.Bytes.Kind.bytearray || b2.any fun x=>x.fst.onHeap)=false:=by
    have:(b2.any fun x=>x.fst.onHeap)=false:=by
     rw [List.any_eq_false]; intro q hq; simp [(hb2 q hq).1]
    rw [this]; decide
   refine hG ?_
   clear hG
   subst es
   refine wpAny_bind ?_
   show wpAny _ _ (load l >>= _) _ _ _
   refine wpAny_bind (wpAny_load hl (wpAny_pure ?_))
   simp only [hany,hgd,Bool.false_eq_true,if_false]
   refine wpAny_bind (wpAny_holding (wpAny_of_eq take_eq ?_))
   simp only
   refine wpAny_bind ?_
   show wpAny _ _ (load l >>= _) _ _ _
   refine wpAny_bind (wpAny_load hl (wpAny_pure ?_))
   simp only [bne_self_eq_false,Bool.false_eq_true,if_false]
   refine wpAny_pure ⟨i+1,rfl,hrest,by lia,?_,?_⟩
   ·simp only [hb1]
    rw [List.take_add_one,List.getElem?_eq_getElem hlt]; simp
   ·intro q hq
    simp only [List.mem_append,List.mem_singleton] at hq
    rcases hq with hq | rfl
    ·exact hb2 q hq
    ·exact ⟨rfl,rfl⟩
  ·rintro ⟨b1,b2⟩ s' ⟨i,rfl,hr,hi,hb1,hb2⟩
   simp only at hb1 hb2
   have:i=bs.length:=by
    rcases Nat.lt_or_ge i bs.length with h | h
    ·have e:bs.length - i=(bs.length - (i+1))+1:=by lia
     rw [e,List.range'_succ] at hr; cases hr
    ·lia
   subst this
   exact hfin (by simpa using hb1) (fun q hq=>(hb2 q hq).2) fun tk k=>⟨_,rfl,h tk k⟩
theorem joined_go (sep:List UInt8):∀ (ps:List (Array UInt8)) (k:Nat) (out:Array UInt8),0<k→((ps.zipIdx k).foldl (fun out (x:Array UInt8 × Nat)=>(if x.2 > 0 then out++sep.toArray else out)++x.1) out).toList=out.toList++(ps.map fun b=>sep++b.toList).flatten
 | [],k,out,_=>by simp
 | p::r,k,out,hk=>by
  simp only [List.zipIdx_cons,List.foldl_cons]
  rw [joined_go sep r (k+1) _ (by lia)]
  simp [hk]
theorem glue_cons (s a:List Int) (r:List (List Int)):glue s (a::r)=a++(r.map fun b=>s++b).flatten:=by
 induction r generalizing a with
 | nil=>simp [glue]
 | cons b r ih=>rw [glue,ih]; simp
theorem joined_glue (sep:Array UInt8) (bs:List (Array UInt8)):bInt (Builtin.Bytes.joined sep bs)=glue (bInt sep) (bs.map bInt):=by
 obtain ⟨sp⟩:=sep
 cases bs with
 | nil=>rfl
 | cons b r =>
  rw [List.map_cons,glue_cons]
  unfold Builtin.Bytes.joined bInt
  have:=joined_go sp r 1 b (by lia)
  simp only [List.zipIdx_cons,List.foldl_cons,Nat.zero_add]
  have e0:((if (0:Nat) > 0 then (#[]:Array UInt8)++(Array.mk sp) else #[])++b)=b:=by simp
  have e1:(Array.mk sp)=sp.toArray:=rfl
  rw [e1] at e0 ⊢
  rw [e0,this]
  simp [List.map_flatten,Function.comp_def]
theorem glue_len (s:List Int):∀ (cs:List (List Int)) (k:Nat),k+(glue s cs).length=cs.foldl (fun x y=>x+y.length) (k+s.length * (cs.length - 1))
 | [],k=>by simp [glue]
 | [a],k=>by simp [glue]
 | a::b::r,k=>by
  have ih:=glue_len s (b::r) (k+a.length+s.length)
  rw [glue]
  simp only [List.length_append,List.foldl_cons,List.length_cons,Nat.add_sub_cancel] at ih ⊢
  have e:k+(a.length+s.length+(glue s (b::r)).length)=k+a.length+s.length+(glue s (b::r)).length:=by lia
  rw [e,ih]
  congr 1
  rw [Nat.mul_add,Nat.mul_one]
  lia
theorem slot_join : PySem.Slot "bytes" "join" "bytes.join" :=
 .of (owner := "bytes") (n := "join") (by rw [typeLookup_type,builtinLookup_eq_fast]; kernel_rfl) (by decide +kernel) (by decide +kernel) (by decide +kernel)
  (by first | exact .inl (by decide +kernel) | exact .inr (by decide +kernel)) (by rw [isSubtype_type]; kernel_rfl)
theorem type_join : typeOf (.builtin "bytes.join") = pure (.type "method_descriptor") := by show builtinType _ = _; rw [builtinType_eq_fast]; kernel_rfl
theorem entry_join : entryFor table "bytes.join" = some Builtin.«bytes.join» := entryFor_of_tree (by kernel_rfl)
theorem args_join (a b : Value) : argsOk "bytes.join" ⟨[a,b],[]⟩ := by
 unfold argsOk; rw [signature?_of (id := "bytes.join") (n := ['n','i','o','j']) (o := ['s','e','t','y','b']) (by kernel_rfl) FB.owner_bytes]; kernel_rfl
theorem bs_are {H:Heap}:∀ {l:List PV} {cs:List (List Int)} {ws:List Value},chunksOf l=some cs→RepL H l ws→∃ bs,BsAre ws bs∧bs.map bInt=cs
 | [],cs,ws,h,r=>by
  rw [RepL] at r; subst r; simp [chunksOf] at h; subst h; exact ⟨[],.nil,rfl⟩
 | p::t,cs,ws,h,r=>by
  rw [RepL] at r
  obtain ⟨v,u,rfl,rp,rt⟩:=r
  cases p <;> simp only [chunksOf,reduceCtorEq] at h
  rename_i i
  cases ht:chunksOf t with
  | none=>rw [ht] at h; cases h
  | some ms =>
   rw [ht] at h; cases h
   obtain ⟨b,tk,rfl,e,_⟩:=rep_bytes rp
   obtain ⟨bs,h1,h2⟩:=bs_are ht rt
   exact ⟨b::bs,.cons b tk h1,by rw [List.map_cons,e,h2]⟩
section
variable {prog:Program} {w:World} {Γ:Ct} {B:Bl}
theorem foldl_bInt:∀ (bs:List (Array UInt8)) (k:Nat),bs.foldl (fun x y=>x+y.size) k=(bs.map bInt).foldl (fun x y=>x+y.length) k
 | [],_=>rfl
 | b::r,k=>by simp only [List.foldl_cons,List.map_cons]; rw [foldl_bInt r,bInt_length]
theorem join_of {H:Heap} {s:Shared} {A:Around} {fr:List Env} {sep:Array UInt8} {t:Tok} {x:PV} {a:Value} {Q E:Value→Shared→Prop} (hs:H.StaysIn s.heap) (ra:Rep H x a)
  (hp : Post Rep fr H s (joinP (.bytes (bInt sep)) x) Q E) : wpAny (model prog w) A (call (.builtin "bytes.join") [.bytes sep t,a]) Q E s := by
 cases x <;> try exact hp.elim
 rename_i l
 simp only [joinP] at hp
 cases hc:chunksOf l with
 | none=>rw [hc] at hp; exact hp.elim
 | some cs =>
  rw [hc] at hp
  simp only at hp
  split at hp
  ·rename_i hz
   obtain ⟨c,ws,rfl,hl,_,hr⟩:=rep_list ra
   obtain ⟨bs,hb,hm⟩:=bs_are hc hr
   obtain ⟨⟨cls,dd,data,sl⟩,ho,hcl,n,hd⟩:=isList_up hs hl
   simp only at hcl hd
   subst hcl hd
   have hj:=joined_glue sep bs
   rw [hm] at hj
   have hsz:(Builtin.Bytes.joined sep bs).size=(glue (bInt sep) cs).length:=by rw [← hj,bInt_length]
   refine call_meets slot_join (typeIs_bytes _ _ _) entry_join (args_join _ _) (join_meets sep t c ws.toArray n dd sl bs hb ?_ (by rw [hsz]; exact lim_line hz.2) ?_) ⟨ho,fun t' k=>hp.ok (.refl hs) (repBytes _ _ hj hz.2)⟩
   ·have:=glue_len (bInt sep) cs 0
    rw [foldl_bInt,hm,show sep.size=(bInt sep).length by rw [bInt_length],show bs.length=cs.length by rw [← hm]; simp]
    simp only [Nat.zero_add] at this
    rw [← this]
    exact Nat.le_trans hz.2 (by decide)
   ·intro h1 b hbm
    match bs,h1,hbm with
    | [b'],_,hbm =>
     simp at hbm; subst hbm
     unfold Builtin.Bytes.joined
     simp
  ·exact hp.elim
theorem se_join {d : Nat} (hB : B.Ok d) {b : List UInt8} {k : Nat} {cp apos pos : Pos} {m : Str} {e : Expr} {l : List Int} {f : List Slot → Res PV} (hm : m = Str.ofString "join") (hl : litOk (.bytes b) (.bytes l) = true) (hst : notStar e = true)
  (hline:(apos.endLine == pos.line)=true) (he:SE prog w Γ B e f) :
  SE prog w Γ B (.Call (.Attribute (.Constant (.bytes b) k cp) m apos) [e] [] pos) (fun ρ=>(Res.ok (PV.bytes l)).bind fun x=>(f ρ).bind fun y=>joinP x y):=by
 intro H ρ s Q E hs hp
 subst hm
 have hbl:bInt b.toArray=l:=eq_of_beq (show (b.map (fun c=>(c.toNat:Int)) == l)=true from hl)
 have hseq:starEach [e] B.env=[(false,eval e B.env)]:=by rw [starEach_cons hst]; rfl
 refine Call_method1 rfl hseq hline ?_
 have key : MethodOnS prog w B.A E "join" (.bytes b.toArray s.toks) pos [(false,eval e B.env)] Q { s with toks := s.toks + 1 } := by
  refine ⟨"bytes","bytes.join",FB.plainAttrs_bytes,slot_join,type_join,typeIs_bytes _ _ _,(fun _ e => nomatch e),?_⟩
  refine Calls.callWith_builtin rfl (Calls.evalArgs_plain (Calls.spliced_cons (he H ρ { s with toks:=s.toks+1 } _ _ (hs.ext (s':={ s with toks:=s.toks+1 }) (.refl hs.stays)) (Post.bind (Post.ext (s':={ s with toks:=s.toks+1 }) hp (.refl hs.stays)) fun p v s₁ H₁ _ e₁ rr hp₁=>Calls.spliced_nil ?_))))
  rw [← hbl] at hp₁
  exact join_of e₁.stays rr hp₁
 rw [eval_Constant]
 exact fun _ _ _=>key
end
end Mine
namespace Mine
open PySem
theorem inv_lit {N:Nm} {e:PySem.Expr} {v:PV} {P:PySem.Expr→Prop} (h:chkE N e (.lit v)=true) (K:∀ c k p,litOk c v=true→shortLit v=true→P (.Constant c k p)):P e :=
 onConstant_k (P:=fun e=>P e) (show onConstant e _=true from h) fun c k p h=>K c k p (aL h) (aR h)
theorem inv_neg {N:Nm} {e:PySem.Expr} {n:Nat} {P:PySem.Expr→Prop} (h:chkE N e (.neg n)=true) (K:∀ i k p q,(i == (n:Int))=true→P (.UnaryOp .USub (.Constant (.int i) k p) q)):P e :=
 onUnaryOp_k (P:=fun e=>P e) (show onUnaryOp e _=true from h) fun z1 z2 q h=>onUSub_k (P:=fun z1=>P (.UnaryOp z1 z2 q)) h fun h=>onConstant_k (P:=fun z2=>P (.UnaryOp .USub z2 q)) h fun z3 k p h=>onint_k (P:=fun z3=>P (.UnaryOp .USub (.Constant z3 k p) q)) h fun i h=>K i k p q h
theorem inv_var {N:Nm} {e:PySem.Expr} {i:Nat} {P:PySem.Expr→Prop} (h:chkE N e (.var i)=true) (K:∀ x p,N.isVar x i=true→P (.Name x p)):P e :=
 onName_k (P:=fun e=>P e) (show onName e _=true from h) fun x p h=>K x p h
theorem inv_glob {N:Nm} {e:PySem.Expr} {i:Nat} {P:PySem.Expr→Prop} (h:chkE N e (.glob i)=true) (K:∀ x p,(N.gs[i]? == some x)=true→N.isGlob x=true→P (.Name x p)):P e :=
 onName_k (P:=fun e=>P e) (show onName e _=true from h) fun x p h=>K x p (aL h) (aR h)
theorem inv_strFlt {N:Nm} {e:PySem.Expr} {s:List Nat} {x:UInt64} {P:PySem.Expr→Prop} (h:chkE N e (.strFlt s x)=true) (K:∀ a k p b k2 p2 k3 p3,(a.cps.toList == s)=true→(b == x)=true→P (.Tuple [.Constant (.str a) k p,.Constant (.float b) k2 p2] k3 p3)):P e :=
 onTuple_k (P:=fun e=>P e) (show onTuple e _=true from h) fun z4 k3 p3 h=>onL2_k (P:=fun z4=>P (.Tuple z4 k3 p3)) h fun z5 z6 h=>onConstant_k (P:=fun z5=>P (.Tuple [z5,z6] k3 p3)) h fun z7 k p h=>onstr_k (P:=fun z7=>P (.Tuple [(.Constant z7 k p),z6] k3 p3)) h fun a h=>onConstant_k (P:=fun z6=>P (.Tuple [(.Constant (.str a) k p),z6] k3 p3)) h fun z8 k2 p2 h=>onfloat_k (P:=fun z8=>P (.Tuple [(.Constant (.str a) k p),(.Constant z8 k2 p2)] k3 p3)) h fun b h=>K a k p b k2 p2 k3 p3 (aL h) (aR h)
theorem inv_tup {N:Nm} {e:PySem.Expr} {l:List CE} {P:PySem.Expr→Prop} (h:chkE N e (.tup l)=true) (K:∀ es k p,chkEs N es l=true→P (.Tuple es k p)):P e :=
 onTuple_k (P:=fun e=>P e) (show onTuple e _=true from h) fun es k p h=>K es k p h
theorem inv_lst {N:Nm} {e:PySem.Expr} {l:List CE} {P:PySem.Expr→Prop} (h:chkE N e (.lst l)=true) (K:∀ es p,chkEs N es l=true→P (.List es p)):P e :=
 onList_k (P:=fun e=>P e) (show onList e _=true from h) fun es p h=>K es p h
theorem inv_bin {N:Nm} {e:PySem.Expr} {o:BOp} {a b:CE} {P:PySem.Expr→Prop} (h:chkE N e (.bin o a b)=true) (K:∀ l op r p,bopOk op o=true→chkE N l a=true→chkE N r b=true→P (.BinOp l op r p)):P e :=
 onBinOp_k (P:=fun e=>P e) (show onBinOp e _=true from h) fun l op r p h=>K l op r p (aL (aL h)) (aR (aL h)) (aR h)
theorem inv_cmp {N:Nm} {e:PySem.Expr} {o:COp} {a b:CE} {P:PySem.Expr→Prop} (h:chkE N e (.cmp o a b)=true) (K:∀ l op r p,copOk op o=true→chkE N l a=true→chkE N r b=true→(!behindInMarks op r)=true→P (.Compare l [op] [r] p)):P e :=
 onCompare_k (P:=fun e=>P e) (show onCompare e _=true from h) fun l z9 z10 p h=>onL1_k (P:=fun z9=>P (.Compare l z9 z10 p)) h fun op h=>onL1_k (P:=fun z10=>P (.Compare l [op] z10 p)) h fun r h=>K l op r p (aL (aL (aL h))) (aR (aL (aL h))) (aR (aL h)) (aR h)
theorem inv_cmp2 {N:Nm} {e:PySem.Expr} {o p:COp} {a b c:CE} {P:PySem.Expr→Prop} (h:chkE N e (.cmp2 o p a b c)=true) (K:∀ l op oq r q ps,copOk op o=true→copOk oq p=true→chkE N l a=true→chkE N r b=true→chkE N q c=true→(!behindInMarks oq q)=true→P (.Compare l [op,oq] [r,q] ps)):P e :=
 onCompare_k (P:=fun e=>P e) (show onCompare e _=true from h) fun l z11 z12 ps h=>onL2_k (P:=fun z11=>P (.Compare l z11 z12 ps)) h fun op oq h=>onL2_k (P:=fun z12=>P (.Compare l [op,oq] z12 ps)) h fun r q h=>K l op oq r q ps (aL (aL (aL (aL (aL h))))) (aR (aL (aL (aL (aL h))))) (aR (aL (aL (aL h)))) (aR (aL (aL h))) (aR (aL h)) (aR h)
theorem inv_and {N:Nm} {e:PySem.Expr} {l:List CE} {P:PySem.Expr→Prop} (h:chkE N e (.and_ l)=true) (K:∀ es p,chkEs N es l=true→P (.BoolOp .And es p)):P e :=
 onBoolOp_k (P:=fun e=>P e) (show onBoolOp e _=true from h) fun z13 es p h=>onAnd_k (P:=fun z13=>P (.BoolOp z13 es p)) h fun h=>K es p h
theorem inv_or {N:Nm} {e:PySem.Expr} {l:List CE} {P:PySem.Expr→Prop} (h:chkE N e (.or_ l)=true) (K:∀ es p,chkEs N es l=true→P (.BoolOp .Or es p)):P e :=
 onBoolOp_k (P:=fun e=>P e) (show onBoolOp e _=true from h) fun z14 es p h=>onOr_k (P:=fun z14=>P (.BoolOp z14 es p)) h fun h=>K es p h
theorem inv_not {N:Nm} {e:PySem.Expr} {a:CE} {P:PySem.Expr→Prop} (h:chkE N e (.not_ a)=true) (K:∀ x p,chkE N x a=true→P (.UnaryOp .Not x p)):P e :=
 onUnaryOp_k (P:=fun e=>P e) (show onUnaryOp e _=true from h) fun z15 x p h=>onNot_k (P:=fun z15=>P (.UnaryOp z15 x p)) h fun h=>K x p h
theorem inv_ite {N:Nm} {e:PySem.Expr} {c x y:CE} {P:PySem.Expr→Prop} (h:chkE N e (.ite c x y)=true) (K:∀ t b o p,chkE N t c=true→chkE N b x=true→chkE N o y=true→P (.IfExp t b o p)):P e :=
 onIfExp_k (P:=fun e=>P e) (show onIfExp e _=true from h) fun t b o p h=>K t b o p (aL (aL h)) (aR (aL h)) (aR h)
theorem inv_slc {N:Nm} {e:PySem.Expr} {a:CE} {l u:Option CE} {P:PySem.Expr→Prop} (h:chkE N e (.slc a l u)=true) (K:∀ v lo hi p q,chkE N v a=true→chkO N lo l=true→chkO N hi u=true→P (.Subscript v (.Slice lo hi none p) q)):P e :=
 onSubscript_k (P:=fun e=>P e) (show onSubscript e _=true from h) fun v z16 q h=>onSlice_k (P:=fun z16=>P (.Subscript v z16 q)) h fun lo hi z17 p h=>onNone_k (P:=fun z17=>P (.Subscript v (.Slice lo hi z17 p) q)) h fun h=>K v lo hi p q (aL (aL h)) (aR (aL h)) (aR h)
theorem inv_idx {N:Nm} {e:PySem.Expr} {a j:CE} {P:PySem.Expr→Prop} (h:chkE N e (.idx a j)=true) (K:∀ v i p,chkE N v a=true→chkE N i j=true→notSlice i=true→P (.Subscript v i p)):P e :=
 onSubscript_k (P:=fun e=>P e) (show onSubscript e _=true from h) fun v i p h=>K v i p (aL (aL h)) (aR (aL h)) (aR h)
theorem inv_len {N : Nm} {e : PySem.Expr} {a : CE} {P : PySem.Expr → Prop} (h : chkE N e (.len a) = true) (K : ∀ x xp e1 p,N.isWord x "len" = true → chkE N e1 a = true → notStar e1 = true → P (.Call (.Name x xp) [e1] [] p)) : P e :=
 onCall_k (P:=fun e=>P e) (show onCall e _=true from h) fun z18 z19 z20 p h=>onName_k (P:=fun z18=>P (.Call z18 z19 z20 p)) h fun x xp h=>onL1_k (P:=fun z19=>P (.Call (.Name x xp) z19 z20 p)) h fun e1 h=>onL0_k (P:=fun z20=>P (.Call (.Name x xp) [e1] z20 p)) h fun h=>K x xp e1 p (aL (aL h)) (aR (aL h)) (aR h)
theorem inv_isin {N : Nm} {e : PySem.Expr} {a : CE} {l : List Ty} {P : PySem.Expr → Prop} (h : chkE N e (.isin a l) = true) (K : ∀ x xp e1 ts k p q,N.isWord x "isinstance" = true → chkE N e1 a = true → chkTs N ts l = true → decide (l.length ≤ 1048576) = true → notStar e1 = true → P (.Call (.Name x xp) [e1,.Tuple ts k p] [] q)) : P e :=
 onCall_k (P:=fun e=>P e) (show onCall e _=true from h) fun z21 z22 z23 q h=>onName_k (P:=fun z21=>P (.Call z21 z22 z23 q)) h fun x xp h=>onL2_k (P:=fun z22=>P (.Call (.Name x xp) z22 z23 q)) h fun e1 z24 h=>onTuple_k (P:=fun z24=>P (.Call (.Name x xp) [e1,z24] z23 q)) h fun ts k p h=>onL0_k (P:=fun z23=>P (.Call (.Name x xp) [e1,(.Tuple ts k p)] z23 q)) h fun h=>K x xp e1 ts k p q (aL (aL (aL (aL h)))) (aR (aL (aL (aL h)))) (aR (aL (aL h))) (aR (aL h)) (aR h)
theorem inv_isin1 {N : Nm} {e : PySem.Expr} {a : CE} {t : Ty} {P : PySem.Expr → Prop} (h : chkE N e (.isin1 a t) = true) (K : ∀ x xp e1 y p q,N.isWord x "isinstance" = true → chkE N e1 a = true → N.isWord y (tyName t) = true → notStar e1 = true → P (.Call (.Name x xp) [e1,.Name y p] [] q)) : P e :=
 onCall_k (P:=fun e=>P e) (show onCall e _=true from h) fun z25 z26 z27 q h=>onName_k (P:=fun z25=>P (.Call z25 z26 z27 q)) h fun x xp h=>onL2_k (P:=fun z26=>P (.Call (.Name x xp) z26 z27 q)) h fun e1 z28 h=>onName_k (P:=fun z28=>P (.Call (.Name x xp) [e1,z28] z27 q)) h fun y p h=>onL0_k (P:=fun z27=>P (.Call (.Name x xp) [e1,(.Name y p)] z27 q)) h fun h=>K x xp e1 y p q (aL (aL (aL h))) (aR (aL (aL h))) (aR (aL h)) (aR h)
theorem inv_mkBytes {N : Nm} {e : PySem.Expr} {a : CE} {P : PySem.Expr → Prop} (h : chkE N e (.mkBytes a) = true) (K : ∀ x xp e1 p,N.isWord x "bytes" = true → chkE N e1 a = true → notStar e1 = true → P (.Call (.Name x xp) [e1] [] p)) : P e :=
 onCall_k (P:=fun e=>P e) (show onCall e _=true from h) fun z29 z30 z31 p h=>onName_k (P:=fun z29=>P (.Call z29 z30 z31 p)) h fun x xp h=>onL1_k (P:=fun z30=>P (.Call (.Name x xp) z30 z31 p)) h fun e1 h=>onL0_k (P:=fun z31=>P (.Call (.Name x xp) [e1] z31 p)) h fun h=>K x xp e1 p (aL (aL h)) (aR (aL h)) (aR h)
theorem inv_typeIs {N : Nm} {e : PySem.Expr} {a : CE} {t : Ty} {P : PySem.Expr → Prop} (h : chkE N e (.typeIs a t) = true) (K : ∀ x xp e1 p y q r,N.isWord x "type" = true → chkE N e1 a = true → N.isWord y (tyName t) = true → notStar e1 = true → P (.Compare (.Call (.Name x xp) [e1] [] p) [.Is] [.Name y q] r)) : P e :=
 onCompare_k (P:=fun e=>P e) (show onCompare e _=true from h) fun z32 z33 z34 r h=>onCall_k (P:=fun z32=>P (.Compare z32 z33 z34 r)) h fun z35 z36 z37 p h=>onName_k (P:=fun z35=>P (.Compare (.Call z35 z36 z37 p) z33 z34 r)) h fun x xp h=>onL1_k (P:=fun z36=>P (.Compare (.Call (.Name x xp) z36 z37 p) z33 z34 r)) h fun e1 h=>onL0_k (P:=fun z37=>P (.Compare (.Call (.Name x xp) [e1] z37 p) z33 z34 r)) h fun h=>onL1_k (P:=fun z33=>P (.Compare (.Call (.Name x xp) [e1] [] p) z33 z34 r)) h fun z38 h=>onIs_k (P:=fun z38=>P (.Compare (.Call (.Name x xp) [e1] [] p) [z38] z34 r)) h fun h=>onL1_k (P:=fun z34=>P (.Compare (.Call (.Name x xp) [e1] [] p) [.Is] z34 r)) h fun z39 h=>onName_k (P:=fun z39=>P (.Compare (.Call (.Name x xp) [e1] [] p) [.Is] [z39] r)) h fun y q h=>K x xp e1 p y q r (aL (aL (aL h))) (aR (aL (aL h))) (aR (aL h)) (aR h)
theorem inv_call {N:Nm} {e:PySem.Expr} {f:Nat} {args:List CE} {P:PySem.Expr→Prop} (h:chkE N e (.call f args)=true) (K:∀ x xp es p,(N.fs[f]? == some x)=true→N.isGlob x=true→chkEs N es args=true→(!es.isEmpty)=true→P (.Call (.Name x xp) es [] p)):P e :=
 onCall_k (P:=fun e=>P e) (show onCall e _=true from h) fun z40 es z41 p h=>onName_k (P:=fun z40=>P (.Call z40 es z41 p)) h fun x xp h=>onL0_k (P:=fun z41=>P (.Call (.Name x xp) es z41 p)) h fun h=>K x xp es p (aL (aL (aL h))) (aR (aL (aL h))) (aR (aL h)) (aR h)
theorem inv_join {N : Nm} {e : PySem.Expr} {s a : CE} {P : CE → PySem.Expr → Prop} (h : chkE N e (.join s a) = true) (K : ∀ b k p m ap e1 q l,(m == Str.ofString "join") = true → litOk (.bytes b) (.bytes l) = true → chkE N e1 a = true → (ap.endLine == q.line) = true → notStar e1 = true → P (.lit (.bytes l)) (.Call (.Attribute (.Constant (.bytes b) k p) m ap) [e1] [] q)) : P s e :=
 onLitB_k (P:=fun s=>P s e) (show onLitB s _=true from h) fun l h=>onCall_k (P:=fun e=>P (.lit (.bytes l)) e) h fun z42 z43 z44 q h=>onAttribute_k (P:=fun z42=>P (.lit (.bytes l)) (.Call z42 z43 z44 q)) h fun z45 m ap h=>onConstant_k (P:=fun z45=>P (.lit (.bytes l)) (.Call (.Attribute z45 m ap) z43 z44 q)) h fun z46 k p h=>onbytes_k (P:=fun z46=>P (.lit (.bytes l)) (.Call (.Attribute (.Constant z46 k p) m ap) z43 z44 q)) h fun b h=>onL1_k (P:=fun z43=>P (.lit (.bytes l)) (.Call (.Attribute (.Constant (.bytes b) k p) m ap) z43 z44 q)) h fun e1 h=>onL0_k (P:=fun z44=>P (.lit (.bytes l)) (.Call (.Attribute (.Constant (.bytes b) k p) m ap) [e1] z44 q)) h fun h=>K b k p m ap e1 q l (aL (aL (aL (aL h)))) (aR (aL (aL (aL h)))) (aR (aL (aL h))) (aR (aL h)) (aR h)
theorem inv_comp {N:Nm} {e:PySem.Expr} {e1 src:CE} {cond:Option CE} {P:Option CE→PySem.Expr→Prop} (h:chkE N e (.comp e1 src cond)=true) (K:∀ elt x p it sc q,chkE N it src=true→compOk sc=true→N.isVarIn sc x=true→chkE ⟨sc.names,[x],N.fs,N.gs⟩ elt e1=true→notSet it=true→P none (.ListComp elt [⟨.Name x p,it,[],0⟩] sc q)):P cond e :=
 onNone_k (P:=fun cond=>P cond e) (show onNone cond _=true from h) fun h=>onListComp_k (P:=fun e=>P none e) h fun elt z47 sc q h=>onL1_k (P:=fun z47=>P none (.ListComp elt z47 sc q)) h fun z48 h=>onGen_k (P:=fun z48=>P none (.ListComp elt [z48] sc q)) h fun z49 it z50 z51 h=>onName_k (P:=fun z49=>P none (.ListComp elt [⟨z49,it,z50,z51⟩] sc q)) h fun x p h=>onL0_k (P:=fun z50=>P none (.ListComp elt [⟨(.Name x p),it,z50,z51⟩] sc q)) h fun h=>onZero_k (P:=fun z51=>P none (.ListComp elt [⟨(.Name x p),it,[],z51⟩] sc q)) h fun h=>K elt x p it sc q (aL (aL (aL (aL h)))) (aR (aL (aL (aL h)))) (aR (aL (aL h))) (aR (aL h)) (aR h)
theorem inv_dict0 {N:Nm} {e:PySem.Expr} {P:PySem.Expr→Prop} (h:chkE N e .dict0=true) (K:∀ p,P (.Dict [] [] p)):P e :=
 onDict_k (P:=P) (show onDict e _=true from h) fun a b p h=>onL0_k (P:=fun a=>P (.Dict a b p)) h fun h=>onL0_k (P:=fun b=>P (.Dict [] b p)) h fun _=>K p
end Mine
namespace Mine
open PySem PySem.W PyProof.Rows
structure Gd (Γ:Ct) (N:Nm) (B:Bl):Prop where
 names:N.names=B.env.scope.names
 vs:N.vs=B.vs
 fs:N.fs=Γ.fs
 gs:N.gs=Γ.gs
section
variable {prog:Program} {w:World} {Γ:Ct} {B:Bl}
noncomputable def FOk (prog:Program) (w:World) (Γ:Ct) (d:Nat) (F:Nat→List PV→Res PV):Prop:=∀ f x,Γ.fs[f]?=some x→FnAt Γ x∧∀ args,Con prog w Γ d x args (F f args)
theorem SE.cast {e:Expr} {f g:List Slot→Res PV} (x:SE prog w Γ B e f) (h:∀ ρ,f ρ=g ρ):SE prog w Γ B e g:=by have:=funext h; subst this; exact x
theorem SB.cast {e:Expr} {f g:List Slot→Res Bool} (x:SB prog w Γ B e f) (h:∀ ρ,f ρ=g ρ):SB prog w Γ B e g:=by have:=funext h; subst this; exact x
theorem SEs.cast {e:List Expr} {f g:List Slot→Res (List PV)} (x:SEs prog w Γ B e f) (h:∀ ρ,f ρ=g ρ):SEs prog w Γ B e g:=by have:=funext h; subst this; exact x
theorem SP.cast {e:Option Expr} {f g:List Slot→Res (Option PV)} (x:SP prog w Γ B e f) (h:∀ ρ,f ρ=g ρ):SP prog w Γ B e g:=by have:=funext h; subst this; exact x
theorem SS.cast {e:Stmt} {f g:List Slot→Res (Fl × List Slot)} (x:SS prog w Γ B e f) (h:∀ ρ,f ρ=g ρ):SS prog w Γ B e g:=by have:=funext h; subst this; exact x
theorem SSs.cast {e:List Stmt} {f g:List Slot→Res (Fl × List Slot)} (x:SSs prog w Γ B e f) (h:∀ ρ,f ρ=g ρ):SSs prog w Γ B e g:=by have:=funext h; subst this; exact x
theorem Gd.kind {N:Nm} (g:Gd Γ N B) {x:Str} {k:NameKind} (h:N.names.lookup x=some k):B.env.kindOf x=some k:=by
 unfold Env.kindOf; rw [← g.names]; exact h
theorem Gd.word {N : Nm} (g : Gd Γ N B) {x : Str} {s : String} (h : N.isWord x s = true) : x = Str.ofString s ∧ B.env.kindOf x = some .globalImplicit ∧ (x == ("__debug__" : Str)) = false := by
 obtain ⟨h1,h2,h3⟩:=word_split h
 exact ⟨h1,g.kind h2,h3⟩
theorem Gd.var {N : Nm} (g : Gd Γ N B) {x : Str} {i : Nat} (h : N.isVar x i = true) : B.vs[i]? = some x ∧ B.env.kindOf x = some .local ∧ (x == ("__debug__" : Str)) = false := by
 obtain ⟨h1,h2,h3⟩:=var_names h
 exact ⟨by rw [← g.vs]; exact h1,g.kind h2,h3⟩
theorem sb_typeIs {d : Nat} (hΓ : Γ.Ok) (hB : B.Ok d) {x y : Str} {xp yp cp pos : Pos} {e : Expr} {t : Ty} {f : List Slot → Res PV} (hx : x = Str.ofString "type") (hk : B.env.kindOf x = some .globalImplicit) (hd : (x == ("__debug__" : Str)) = false)
  (hst : notStar e = true) (he : SE prog w Γ B e f) (hy : y = Str.ofString (tyName t)) (hky : B.env.kindOf y = some .globalImplicit) (hdy : (y == ("__debug__" : Str)) = false) :
  SB prog w Γ B (.Compare (.Call (.Name x xp) [e] [] cp) [.Is] [.Name y yp] pos) (fun ρ=>(f ρ).bind fun x=>.ok (isP x t)):=by
 intro H ρ s Q E hs hp
 subst hx
 refine wpAny_isTrue_Compare1 ?_ rfl
 refine call1_t hΓ hB (id := "type") (by decide) (by kernel_rfl) hk hd hst hs (he H ρ s _ _ hs (Post.bind hp fun p v s₁ H₁ _ e₁ rr hp₁ => ?_))
 have hs₁:=hs.ext e₁
 refine call_type_of (typeIs_of hs₁.stays rr) (by cases p <;> (simp only [tyOf]; decide)) ?_
 refine ty_name hΓ hB hy hky hdy hs₁ ?_
 refine wpAny_is_plain rfl (wpAny_truthy_bool (hp₁.ok (.refl hs₁.stays) ?_))
 cases p <;> cases t <;> (simp only [isP,tyOf,tyName]; decide)
end
theorem nt {b:Bool} (h:(!b)=true):b=false:=by cases b <;> first | rfl | cases h
theorem r_cmp (r q:Res PV) (o:COp):(r.bind fun x=>q.bind fun y=>cmpP o x y)=(r.bind fun x=>q.bind fun y=>(cmpP o x y).bind fun b=>.ok (.bool b)).bind truP:=by
 cases r <;> try rfl
 cases q <;> try rfl
 simp only [Res.bind]
 cases cmpP o _ _ <;> rfl
theorem r_cmp2 (r q u:Res PV) (o p:COp):(r.bind fun x=>q.bind fun y=>(cmpP o x y).bind fun t=>if t then u.bind fun z=>cmpP p y z else .ok false) =
  (r.bind fun x=>q.bind fun y=>(cmpP o x y).bind fun t=>if t then u.bind fun z=>(cmpP p y z).bind fun b=>.ok (.bool b) else .ok (.bool false)).bind truP:=by
 cases r <;> try rfl
 cases q <;> try rfl
 simp only [Res.bind]
 cases cmpP o _ _ with
 | ok t =>
  cases t <;> try rfl
  cases u <;> try rfl
  simp only [Res.bind,if_true]
  cases cmpP p _ _ <;> rfl
 | exc=>rfl
 | stuck=>rfl
theorem r_not (r:Res PV):((r.bind truP).bind fun b=>.ok (!b))=(r.bind fun x=>(truP x).bind fun b=>.ok (.bool (!b))).bind truP:=by
 cases r <;> try rfl
 simp only [Res.bind]
 cases truP _ <;> rfl
theorem r_ite (r a c:Res PV):((r.bind truP).bind fun t=>if t then a.bind truP else c.bind truP)=(r.bind fun x=>(truP x).bind fun t=>if t then a else c).bind truP:=by
 cases r <;> try rfl
 simp only [Res.bind]
 cases truP _ with
 | ok t=>cases t <;> rfl
 | exc=>rfl
 | stuck=>rfl
theorem r_one (r:Res PV):((r.bind truP).bind fun t=>if t then Res.ok true else .ok false)=r.bind truP:=by
 cases r <;> try rfl
 simp only [Res.bind]
 cases truP _ with
 | ok t=>cases t <;> rfl
 | exc=>rfl
 | stuck=>rfl
theorem r_and (r q:Res PV):((r.bind truP).bind fun t=>if t then q.bind truP else .ok false)=(r.bind fun x=>(truP x).bind fun t=>if t then q else .ok x).bind truP:=by
 cases r <;> try rfl
 rename_i x
 simp only [Res.bind]
 cases h:truP x with
 | ok t=>cases t <;> first | rfl | exact h.symm
 | exc=>rfl
 | stuck=>rfl
theorem r_or (r q:Res PV):((r.bind truP).bind fun t=>if t then .ok true else q.bind truP)=(r.bind fun x=>(truP x).bind fun t=>if t then .ok x else q).bind truP:=by
 cases r <;> try rfl
 rename_i x
 simp only [Res.bind]
 cases h:truP x with
 | ok t=>cases t <;> first | rfl | exact h.symm
 | exc=>rfl
 | stuck=>rfl
theorem r_ty (r:Res PV) (t:Ty):(r.bind fun x=>Res.ok (isP x t))=(r.bind fun x=>.ok (.bool (isP x t))).bind truP:=by cases r <;> rfl
section
variable {prog:Program} {w:World} {Γ:Ct} {d:Nat} {F:Nat→List PV→Res PV}
noncomputable def EOk (prog:Program) (w:World) (Γ:Ct) (B:Bl) (e:Expr) (f:List Slot→Res PV):Prop:=SE prog w Γ B e f∧SB prog w Γ B e (fun ρ=>(f ρ).bind truP)
theorem EOk.both {B:Bl} {e:Expr} {f:List Slot→Res PV} (h:SE prog w Γ B e f) (he:∀ whole,isTrue e B.env whole=(do let v ← whole; standAt e.pos; holding [v] (truthy v))):EOk prog w Γ B e f:=⟨h,sb_plain h he⟩
theorem lit_short {v:PV} (h:shortLit v=true) (l:List Int) (e:v=.bytes l):l.length≤1048576:=by subst e; exact of_decide_eq_true h
theorem es_nil {N:Nm} {P:List Expr→Prop} {es:List Expr} (h:chkEs N es []=true) (k:P []):P es:=onL0_k (show onL0 es true=true from h) fun _=>k
theorem es_cons {N:Nm} {P:List Expr→Prop} {es:List Expr} {c:CE} {t:List CE} (h:chkEs N es (c::t)=true) (k:∀ e r,chkE N e c=true→notStar e=true→chkEs N r t=true→P (e::r)):P es:=by
 cases es with
 | nil=>exact ff h
 | cons e r=>exact k e r (aL (aL h)) (aR (aL h)) (aR h)
theorem len_var {B : Bl} {N : Nm} (hΓ : Γ.Ok) (hB : B.Ok d) (hg : Gd Γ N B) {x : Str} {xp p : Pos} {e1 : Expr} {i : Nat} (h1 : N.isWord x "len" = true) (h2 : chkE N e1 (.var i) = true) : EOk prog w Γ B (.Call (.Name x xp) [e1] [] p) (evE F Γ.GV (.len (.var i))) :=
 inv_var (P:=fun e1=>EOk prog w Γ B (.Call (.Name x xp) [e1] [] p) (evE F Γ.GV (.len (.var i)))) h2 fun y yp h3 =>
  .both (se_len_var hΓ hB (hg.word h1).1 (hg.word h1).2.1 (hg.word h1).2.2 (hg.var h3).1 (hg.var h3).2.1 (hg.var h3).2.2) fun _=>rfl
theorem len_any {B:Bl} {x:Str} {xp p:Pos} {e1:Expr} {a:CE} (hv:∀ i,EOk prog w Γ B (.Call (.Name x xp) [e1] [] p) (evE F Γ.GV (.len (.var i)))∨a≠.var i) (h:SE prog w Γ B (.Call (.Name x xp) [e1] [] p) (fun ρ=>(evE F Γ.GV a ρ).bind lenP)) :
  EOk prog w Γ B (.Call (.Name x xp) [e1] [] p) (evE F Γ.GV (.len a)):=by
 cases a <;> first | exact .both h fun _=>rfl | skip
 rename_i i
 exact (hv i).resolve_right fun h=>h rfl
mutual
theorem chk_e (hΓ:Γ.Ok) (hF:FOk prog w Γ d F):∀ (c:CE) {N:Nm} {B:Bl} {e:Expr},B.Ok d→Gd Γ N B→chkE N e c=true→EOk prog w Γ B e (evE F Γ.GV c)
 | .lit v,N,B,e,hB,hg,h=>inv_lit (P:=fun e=>EOk prog w Γ B e (evE F Γ.GV (.lit v))) h fun c k p h1 h2=>.both (se_lit h1 (lit_short h2)) fun _=>rfl
 | .neg n,N,B,e,hB,hg,h=>inv_neg (P:=fun e=>EOk prog w Γ B e (evE F Γ.GV (.neg n))) h fun i k p q h1=>.both (se_neg (eq_of_beq h1)) fun _=>rfl
 | .var i,N,B,e,hB,hg,h=>inv_var (P:=fun e=>EOk prog w Γ B e (evE F Γ.GV (.var i))) h fun x p h1=>.both (se_var hB (hg.var h1).1 (hg.var h1).2.1 (hg.var h1).2.2) fun _=>rfl
 | .glob i,N,B,e,hB,hg,h=>inv_glob (P:=fun e=>EOk prog w Γ B e (evE F Γ.GV (.glob i))) h fun x p h1 h2=>.both (se_glob hΓ hB (hg.gs ▸ eq_of_beq h1) (hg.kind (glob_names h2).1) (glob_names h2).2) fun _=>rfl
 | .strFlt s x,N,B,e,hB,hg,h=>inv_strFlt (P:=fun e=>EOk prog w Γ B e (evE F Γ.GV (.strFlt s x))) h fun a k p b k2 p2 k3 p3 h1 h2=>by
  rw [← eq_of_beq h1,← eq_of_beq h2]; exact .both se_strFlt fun _=>rfl
 | .tup l,N,B,e,hB,hg,h=>inv_tup (P:=fun e=>EOk prog w Γ B e (evE F Γ.GV (.tup l))) h fun es k p h1=>.both (se_tup (chk_es hΓ hF l hB hg h1)) fun _=>rfl
 | .lst l,N,B,e,hB,hg,h=>inv_lst (P:=fun e=>EOk prog w Γ B e (evE F Γ.GV (.lst l))) h fun es p h1=>.both (se_lst (chk_es hΓ hF l hB hg h1)) fun _=>rfl
 | .dict0,N,B,e,hB,hg,h=>inv_dict0 (P:=fun e=>EOk prog w Γ B e (evE F Γ.GV .dict0)) h fun p=>.both (se_dict0 hΓ) fun _=>rfl
 | .bin o a b,N,B,e,hB,hg,h=>inv_bin (P:=fun e=>EOk prog w Γ B e (evE F Γ.GV (.bin o a b))) h fun l op r p h1 h2 h3 =>
  .both (se_bin (chk_e hΓ hF a hB hg h2).1 (chk_e hΓ hF b hB hg h3).1 (so_bin h1)) fun _=>rfl
 | .cmp o a b,N,B,e,hB,hg,h=>inv_cmp (P:=fun e=>EOk prog w Γ B e (evE F Γ.GV (.cmp o a b))) h fun l op r p h1 h2 h3 h4 =>
  have ha:=(chk_e hΓ hF a hB hg h2).1
  have hb:=(chk_e hΓ hF b hB hg h3).1
  have hm:=nt h4
  ⟨se_cmp ha hb hm (so_cmp hΓ hB h1),SB.cast (sb_cmp ha hb hm (so_cmp hΓ hB h1)) fun ρ=>r_cmp _ _ _⟩
 | .cmp2 o p a b c,N,B,e,hB,hg,h=>inv_cmp2 (P:=fun e=>EOk prog w Γ B e (evE F Γ.GV (.cmp2 o p a b c))) h fun l op oq r q ps h1 h2 h3 h4 h5 h6 =>
  have ha:=(chk_e hΓ hF a hB hg h3).1
  have hb:=(chk_e hΓ hF b hB hg h4).1
  have hc:=(chk_e hΓ hF c hB hg h5).1
  have hm:=nt h6
  ⟨se_cmp2 ha hb hc hm (so_cmp hΓ hB h1) (so_cmp hΓ hB h2),SB.cast (sb_cmp2 ha hb hc hm (so_cmp hΓ hB h1) (so_cmp hΓ hB h2)) fun ρ=>r_cmp2 _ _ _ _ _⟩
 | .and_ l,N,B,e,hB,hg,h=>inv_and (P:=fun e=>EOk prog w Γ B e (evE F Γ.GV (.and_ l))) h fun es p h1=>chk_and hΓ hF l hB hg h1
 | .or_ l,N,B,e,hB,hg,h=>inv_or (P:=fun e=>EOk prog w Γ B e (evE F Γ.GV (.or_ l))) h fun es p h1=>chk_or hΓ hF l hB hg h1
 | .not_ a,N,B,e,hB,hg,h=>inv_not (P:=fun e=>EOk prog w Γ B e (evE F Γ.GV (.not_ a))) h fun x p h1 =>
  ⟨se_not (chk_e hΓ hF a hB hg h1).1,SB.cast (sb_not (chk_e hΓ hF a hB hg h1).2) fun ρ=>r_not _⟩
 | .ite c a b,N,B,e,hB,hg,h=>inv_ite (P:=fun e=>EOk prog w Γ B e (evE F Γ.GV (.ite c a b))) h fun t x o p h1 h2 h3 =>
  ⟨SE.cast (se_ite (chk_e hΓ hF c hB hg h1).2 (chk_e hΓ hF a hB hg h2).1 (chk_e hΓ hF b hB hg h3).1) fun ρ=>bind_assoc' _ _ _,
   SB.cast (sb_ite (chk_e hΓ hF c hB hg h1).2 (chk_e hΓ hF a hB hg h2).2 (chk_e hΓ hF b hB hg h3).2) fun ρ=>r_ite _ _ _⟩
 | .idx a i,N,B,e,hB,hg,h=>inv_idx (P:=fun e=>EOk prog w Γ B e (evE F Γ.GV (.idx a i))) h fun v j p h1 h2 h3 =>
  .both (se_idx (chk_e hΓ hF a hB hg h1).1 (chk_e hΓ hF i hB hg h2).1 h3) fun _=>rfl
 | .slc a lo hi,N,B,e,hB,hg,h=>inv_slc (P:=fun e=>EOk prog w Γ B e (evE F Γ.GV (.slc a lo hi))) h fun v l u p q h1 h2 h3 =>
  .both (se_slc (chk_e hΓ hF a hB hg h1).1 (chk_o hΓ hF lo hB hg h2) (chk_o hΓ hF hi hB hg h3)) fun _=>rfl
 | .call f args,N,B,e,hB,hg,h=>inv_call (P:=fun e=>EOk prog w Γ B e (evE F Γ.GV (.call f args))) h fun x xp es p h1 h2 h3 h4=>by
  have hf:=hF f x (hg.fs ▸ eq_of_beq h1)
  have h5:=glob_names h2
  have hes:=chk_es hΓ hF args hB hg h3
  cases es with
  | nil=>exact ff h4
  | cons e1 es =>
   have hn:notStar e1=true:=by
    cases args with
    | nil=>exact ff h3
    | cons a t=>exact aR (aL h3)
   exact .both (se_call hΓ hB (hg.kind h5.1) h5.2 hf.1 hn hes hf.2) fun _=>rfl
 | .len a,N,B,e,hB,hg,h=>inv_len (P:=fun e=>EOk prog w Γ B e (evE F Γ.GV (.len a))) h fun x xp e1 p h1 h2 h9 =>
  len_any (fun i=>Classical.byCases (fun (q:a=.var i)=>.inl (len_var hΓ hB hg h1 (q ▸ h2))) .inr) (se_len hΓ hB (hg.word h1).1 (hg.word h1).2.1 (hg.word h1).2.2 h9 (chk_e hΓ hF a hB hg h2).1)
 | .isin a ts,N,B,e,hB,hg,h=>inv_isin (P:=fun e=>EOk prog w Γ B e (evE F Γ.GV (.isin a ts))) h fun x xp e1 es k p q h1 h2 h3 h4 h9 =>
  .both (se_isin hΓ hB hg.names.symm (hg.word h1).1 (hg.word h1).2.1 (hg.word h1).2.2 h9 (chk_e hΓ hF a hB hg h2).1 h3 (of_decide_eq_true h4)) fun _=>rfl
 | .isin1 a t,N,B,e,hB,hg,h=>inv_isin1 (P:=fun e=>EOk prog w Γ B e (evE F Γ.GV (.isin1 a t))) h fun x xp e1 y p q h1 h2 h3 h9 =>
  .both (se_isin1 hΓ hB (hg.word h1).1 (hg.word h1).2.1 (hg.word h1).2.2 h9 (chk_e hΓ hF a hB hg h2).1 (hg.word h3).1 (hg.word h3).2.1 (hg.word h3).2.2) fun _=>rfl
 | .mkBytes a,N,B,e,hB,hg,h=>inv_mkBytes (P:=fun e=>EOk prog w Γ B e (evE F Γ.GV (.mkBytes a))) h fun x xp e1 p h1 h2 h9 =>
  .both (se_mkBytes hΓ hB (hg.word h1).1 (hg.word h1).2.1 (hg.word h1).2.2 h9 (chk_e hΓ hF a hB hg h2).1) fun _=>rfl
 | .typeIs a t,N,B,e,hB,hg,h=>inv_typeIs (P:=fun e=>EOk prog w Γ B e (evE F Γ.GV (.typeIs a t))) h fun x xp e1 p y q r h1 h2 h3 h9 =>
  have q1:=hg.word h1
  have q2:=hg.word h3
  have ha:=(chk_e hΓ hF a hB hg h2).1
  ⟨se_typeIs hΓ hB q1.1 q1.2.1 q1.2.2 h9 ha q2.1 q2.2.1 q2.2.2,SB.cast (sb_typeIs hΓ hB q1.1 q1.2.1 q1.2.2 h9 ha q2.1 q2.2.1 q2.2.2) fun ρ=>r_ty _ _⟩
 | .join s a,N,B,e,hB,hg,h=>inv_join (P:=fun s e=>EOk prog w Γ B e (evE F Γ.GV (.join s a))) h fun b k p m ap e1 q l h1 h2 h3 h4 h9 =>
  .both (se_join hB (eq_of_beq h1) h2 h9 h4 (chk_e hΓ hF a hB hg h3).1) fun _=>rfl
 | .comp e1 src cond,N,B,e,hB,hg,h=>inv_comp (P:=fun o e=>EOk prog w Γ B e (evE F Γ.GV (.comp e1 src o))) h fun elt x p it sc q h1 h2 h3 h4 h5 =>
  .both (se_comp hB h2 (eq_of_beq (aL h3)) h5 (fun C=>(chk_e hΓ hF e1 (N:=⟨sc.names,[x],N.fs,N.gs⟩) (B:=B.comp sc x C) (hB.comp (compOk_parts h2).1 x C) ⟨rfl,rfl,hg.fs,hg.gs⟩ h4).1) (chk_e hΓ hF src hB hg h1).1) fun _=>rfl
theorem chk_o (hΓ:Γ.Ok) (hF:FOk prog w Γ d F):∀ (c:Option CE) {N:Nm} {B:Bl} {e:Option Expr},B.Ok d→Gd Γ N B→chkO N e c=true→SP prog w Γ B e (evO F Γ.GV c)
 | none,N,B,e,hB,hg,h=>onNone_k (P:=fun e=>SP prog w Γ B e (evO F Γ.GV none)) (show onNone e true=true from h) fun _=>sp_none
 | some c,N,B,e,hB,hg,h=>onSome_k (P:=fun e=>SP prog w Γ B e (evO F Γ.GV (some c))) (show onSome e _=true from h) fun e h=>sp_some (chk_e hΓ hF c hB hg h).1
theorem chk_es (hΓ:Γ.Ok) (hF:FOk prog w Γ d F):∀ (l:List CE) {N:Nm} {B:Bl} {es:List Expr},B.Ok d→Gd Γ N B→chkEs N es l=true→SEs prog w Γ B es (evEs F Γ.GV l)
 | [],N,B,es,hB,hg,h=>es_nil (P:=fun es=>SEs prog w Γ B es (evEs F Γ.GV [])) h ses_nil
 | c::t,N,B,es,hB,hg,h=>es_cons (P:=fun es=>SEs prog w Γ B es (evEs F Γ.GV (c::t))) h fun e r h1 h2 h3=>ses_cons (chk_e hΓ hF c hB hg h1).1 (chk_es hΓ hF t hB hg h3) h2
theorem chk_and (hΓ:Γ.Ok) (hF:FOk prog w Γ d F):∀ (l:List CE) {N:Nm} {B:Bl} {es:List Expr} {pos:Pos},B.Ok d→Gd Γ N B→chkEs N es l=true→EOk prog w Γ B (.BoolOp .And es pos) (evAnd F Γ.GV l)
 | [],N,B,es,pos,hB,hg,h=>⟨fun H ρ s Q E hs hp=>False.elim hp,fun H ρ s Q E hs hp=>False.elim hp⟩
 | [a],N,B,es,pos,hB,hg,h=>es_cons (P:=fun es=>EOk prog w Γ B (.BoolOp .And es pos) (evAnd F Γ.GV [a])) h fun e r h1 h2 h3 =>
  es_nil (P:=fun r=>EOk prog w Γ B (.BoolOp .And (e::r) pos) (evAnd F Γ.GV [a])) h3
   ⟨fun H ρ s Q E hs hp=>BoolOp_one ((chk_e hΓ hF a hB hg h1).1 H ρ s Q E hs hp),SB.cast (sb_and (chk_e hΓ hF a hB hg h1).2 sb_and_nil) fun ρ=>r_one _⟩
 | a::b::t,N,B,es,pos,hB,hg,h=>es_cons (P:=fun es=>EOk prog w Γ B (.BoolOp .And es pos) (evAnd F Γ.GV (a::b::t))) h fun e r h1 h2 h3 =>
  have ha:=chk_e hΓ hF a hB hg h1
  have hr:=fun {pos:Pos}=>chk_and hΓ hF (b::t) hB hg (pos:=pos) h3
  es_cons (P:=fun r=>(∀ {pos:Pos},EOk prog w Γ B (.BoolOp .And r pos) (evAnd F Γ.GV (b::t)))→EOk prog w Γ B (.BoolOp .And (e::r) pos) (evAnd F Γ.GV (a::b::t))) h3
   (fun e' r' _ _ _ hr=>⟨se_and ha.1 hr.1,SB.cast (sb_and ha.2 hr.2) fun ρ=>r_and _ _⟩) hr
theorem chk_or (hΓ:Γ.Ok) (hF:FOk prog w Γ d F):∀ (l:List CE) {N:Nm} {B:Bl} {es:List Expr} {pos:Pos},B.Ok d→Gd Γ N B→chkEs N es l=true→EOk prog w Γ B (.BoolOp .Or es pos) (evOr F Γ.GV l)
 | [],N,B,es,pos,hB,hg,h=>⟨fun H ρ s Q E hs hp=>False.elim hp,fun H ρ s Q E hs hp=>False.elim hp⟩
 | [a],N,B,es,pos,hB,hg,h=>es_cons (P:=fun es=>EOk prog w Γ B (.BoolOp .Or es pos) (evOr F Γ.GV [a])) h fun e r h1 h2 h3 =>
  es_nil (P:=fun r=>EOk prog w Γ B (.BoolOp .Or (e::r) pos) (evOr F Γ.GV [a])) h3
   ⟨fun H ρ s Q E hs hp=>BoolOp_one ((chk_e hΓ hF a hB hg h1).1 H ρ s Q E hs hp),SB.cast (sb_or (chk_e hΓ hF a hB hg h1).2 sb_or_nil) fun ρ=>r_one _⟩
 | a::b::t,N,B,es,pos,hB,hg,h=>es_cons (P:=fun es=>EOk prog w Γ B (.BoolOp .Or es pos) (evOr F Γ.GV (a::b::t))) h fun e r h1 h2 h3 =>
  have ha:=chk_e hΓ hF a hB hg h1
  have hr:=fun {pos:Pos}=>chk_or hΓ hF (b::t) hB hg (pos:=pos) h3
  es_cons (P:=fun r=>(∀ {pos:Pos},EOk prog w Γ B (.BoolOp .Or r pos) (evOr F Γ.GV (b::t)))→EOk prog w Γ B (.BoolOp .Or (e::r) pos) (evOr F Γ.GV (a::b::t))) h3
   (fun e' r' _ _ _ hr=>⟨se_or ha.1 hr.1,SB.cast (sb_or ha.2 hr.2) fun ρ=>r_or _ _⟩) hr
end
end
end Mine
namespace Mine
open PySem PySem.W PyProof.Rows
theorem comp_of {N:Nm} {P:CE→Prop} {a:Expr} {b:List Comprehension} {sc:Scope} {p:Pos} {c:CE} (h:chkE N (.ListComp a b sc p) c=true) (k:∀ e1 src cond,chkE N (.ListComp a b sc p) (.comp e1 src cond)=true→P (.comp e1 src cond)):P c:=by
 cases c <;> first | exact k _ _ _ h | exact ff h | exact onLitB_k (P:=fun s=>P (.join s _)) (show onLitB _ _=true from h) fun _ h=>ff h
theorem ss_split {N:Nm} {P:List Stmt→Prop} {es:List Stmt} {c:CS} {t:List CS} (hc:∀ i,c≠.frz i) (h:chkSs N es (c::t)=true) (k:∀ e r,chkS N e c=true→chkSs N r t=true→P (e::r)):P es:=by
 cases es with
 | nil=>cases c <;> first | exact absurd rfl (hc _) | exact ff h
 | cons e r =>
  have h':(chkS N e c && chkSs N r t)=true:=by cases c <;> first | exact absurd rfl (hc _) | exact h
  exact k e r (aL h') (aR h')
theorem sinv_assign {N:Nm} {e:Stmt} {i:Nat} {c:CE} {P:Stmt→Prop} (h:chkS N e (.assign i c)=true) (K:∀ x tp v p,N.isVar x i=true→chkE N v c=true→(notComp v || compLine x tp v)=true→P (.Assign [.Name x tp] v p)):P e :=
 onAssign_k (P:=fun e=>P e) (show onAssign e _=true from h) fun z1 v p h=>onL1_k (P:=fun z1=>P (.Assign z1 v p)) h fun z2 h=>onName_k (P:=fun z2=>P (.Assign [z2] v p)) h fun x tp h=>K x tp v p (aL (aL h)) (aR (aL h)) (aR h)
theorem sinv_own {N:Nm} {e:Stmt} {i:Nat} {l:List CE} {P:Stmt→Prop} (h:chkS N e (.own i l)=true) (K:∀ x tp es lp p,N.isVar x i=true→chkEs N es l=true→P (.Assign [.Name x tp] (.List es lp) p)):P e :=
 onAssign_k (P:=fun e=>P e) (show onAssign e _=true from h) fun z3 z4 p h=>onL1_k (P:=fun z3=>P (.Assign z3 z4 p)) h fun z5 h=>onName_k (P:=fun z5=>P (.Assign [z5] z4 p)) h fun x tp h=>onList_k (P:=fun z4=>P (.Assign [(.Name x tp)] z4 p)) h fun es lp h=>K x tp es lp p (aL h) (aR h)
theorem sinv_assignT {N:Nm} {e:Stmt} {rev:Bool} {is:List Nat} {c:CE} {P:Stmt→Prop} (h:chkS N e (.assignT rev is c)=true) (K:∀ ts k tp v p,chkNs N ts is=true→chkE N v c=true→notComp v=true→swOk N rev [.Tuple ts k tp] v is=true→P (.Assign [.Tuple ts k tp] v p)):P e :=
 onAssign_k (P:=fun e=>P e) (show onAssign e _=true from h) fun z6 v p h=>onL1_k (P:=fun z6=>P (.Assign z6 v p)) h fun z7 h=>onTuple_k (P:=fun z7=>P (.Assign [z7] v p)) h fun ts k tp h=>K ts k tp v p (aL (aL (aL h))) (aR (aL (aL h))) (aR (aL h)) (aR h)
theorem sinv_aug {N:Nm} {e:Stmt} {i:Nat} {o:BOp} {c:CE} {P:Stmt→Prop} (h:chkS N e (.aug i o c)=true) (K:∀ x tp op v p,N.isVar x i=true→bopOk op o=true→chkE N v c=true→P (.AugAssign (.Name x tp) op v p)):P e :=
 onAugAssign_k (P:=fun e=>P e) (show onAugAssign e _=true from h) fun z8 op v p h=>onName_k (P:=fun z8=>P (.AugAssign z8 op v p)) h fun x tp h=>K x tp op v p (aL (aL h)) (aR (aL h)) (aR h)
theorem sinv_app {N : Nm} {e : Stmt} {i : Nat} {c : CE} {P : Stmt → Prop} (h : chkS N e (.app i c) = true) (K : ∀ x xp m ap v q p,N.isVar x i = true → (m == Str.ofString "append") = true → chkE N v c = true → (ap.endLine == q.line) = true → notStar v = true → P (.Expr (.Call (.Attribute (.Name x xp) m ap) [v] [] q) p)) : P e :=
 onExpr_k (P:=fun e=>P e) (show onExpr e _=true from h) fun z9 p h=>onCall_k (P:=fun z9=>P (.Expr z9 p)) h fun z10 z11 z12 q h=>onAttribute_k (P:=fun z10=>P (.Expr (.Call z10 z11 z12 q) p)) h fun z13 m ap h=>onName_k (P:=fun z13=>P (.Expr (.Call (.Attribute z13 m ap) z11 z12 q) p)) h fun x xp h=>onL1_k (P:=fun z11=>P (.Expr (.Call (.Attribute (.Name x xp) m ap) z11 z12 q) p)) h fun v h=>onL0_k (P:=fun z12=>P (.Expr (.Call (.Attribute (.Name x xp) m ap) [v] z12 q) p)) h fun h=>K x xp m ap v q p (aL (aL (aL (aL h)))) (aR (aL (aL (aL h)))) (aR (aL (aL h))) (aR (aL h)) (aR h)
theorem sinv_expr {N:Nm} {e:Stmt} {c:CE} {P:Stmt→Prop} (h:chkS N e (.expr c)=true) (K:∀ v p,chkE N v c=true→notComp v=true→P (.Expr v p)):P e :=
 onExpr_k (P:=fun e=>P e) (show onExpr e _=true from h) fun v p h=>K v p (aL h) (aR h)
theorem sinv_ret {N:Nm} {e:Stmt} {c:CE} {P:Stmt→Prop} (h:chkS N e (.ret c)=true) (K:∀ v p,chkE N v c=true→P (.Return (some v) p)):P e :=
 onReturn_k (P:=fun e=>P e) (show onReturn e _=true from h) fun z14 p h=>onSome_k (P:=fun z14=>P (.Return z14 p)) h fun v h=>K v p h
theorem sinv_if {N:Nm} {e:Stmt} {c:CE} {x y:List CS} {P:Stmt→Prop} (h:chkS N e (.if_ c x y)=true) (K:∀ t b o p,chkE N t c=true→chkSs N b x=true→chkSs N o y=true→P (.If t b o p)):P e :=
 onIf_k (P:=fun e=>P e) (show onIf e _=true from h) fun t b o p h=>K t b o p (aL (aL h)) (aR (aL h)) (aR h)
theorem sinv_while {N:Nm} {e:Stmt} {c:CE} {x:List CS} {P:Stmt→Prop} (h:chkS N e (.while_ c x)=true) (K:∀ t b p,chkE N t c=true→chkSs N b x=true→P (.While t b [] p)):P e :=
 onWhile_k (P:=fun e=>P e) (show onWhile e _=true from h) fun t b z15 p h=>onL0_k (P:=fun z15=>P (.While t b z15 p)) h fun h=>K t b p (aL h) (aR h)
theorem sinv_forR {N : Nm} {e : Stmt} {i : Nat} {c : CE} {y : List CS} {P : Stmt → Prop} (h : chkS N e (.forR i c y) = true) (K : ∀ x xp r rp v q b p,N.isVar x i = true → N.isWord r "range" = true → chkE N v c = true → chkSs N b y = true → notStar v = true → P (.For (.Name x xp) (.Call (.Name r rp) [v] [] q) b [] p)) : P e :=
 onFor_k (P:=fun e=>P e) (show onFor e _=true from h) fun z16 z17 b z18 p h=>onName_k (P:=fun z16=>P (.For z16 z17 b z18 p)) h fun x xp h=>onCall_k (P:=fun z17=>P (.For (.Name x xp) z17 b z18 p)) h fun z19 z20 z21 q h=>onName_k (P:=fun z19=>P (.For (.Name x xp) (.Call z19 z20 z21 q) b z18 p)) h fun r rp h=>onL1_k (P:=fun z20=>P (.For (.Name x xp) (.Call (.Name r rp) z20 z21 q) b z18 p)) h fun v h=>onL0_k (P:=fun z21=>P (.For (.Name x xp) (.Call (.Name r rp) [v] z21 q) b z18 p)) h fun h=>onL0_k (P:=fun z18=>P (.For (.Name x xp) (.Call (.Name r rp) [v] [] q) b z18 p)) h fun h=>K x xp r rp v q b p (aL (aL (aL (aL h)))) (aR (aL (aL (aL h)))) (aR (aL (aL h))) (aR (aL h)) (aR h)
theorem sinv_for {N:Nm} {e:Stmt} {i:Nat} {c:CE} {y:List CS} {P:Stmt→Prop} (h:chkS N e (.for_ i c y)=true) (K:∀ x xp v b p,N.isVar x i=true→chkE N v c=true→chkSs N b y=true→notSet v=true→P (.For (.Name x xp) v b [] p)):P e :=
 onFor_k (P:=fun e=>P e) (show onFor e _=true from h) fun z22 v b z23 p h=>onName_k (P:=fun z22=>P (.For z22 v b z23 p)) h fun x xp h=>onL0_k (P:=fun z23=>P (.For (.Name x xp) v b z23 p)) h fun h=>K x xp v b p (aL (aL (aL h))) (aR (aL (aL h))) (aR (aL h)) (aR h)
theorem sinv_forT {N:Nm} {e:Stmt} {is:List Nat} {c:CE} {y:List CS} {P:Stmt→Prop} (h:chkS N e (.forT is c y)=true) (K:∀ ts k tp v b p,chkNs N ts is=true→chkE N v c=true→chkSs N b y=true→notSet v=true→P (.For (.Tuple ts k tp) v b [] p)):P e :=
 onFor_k (P:=fun e=>P e) (show onFor e _=true from h) fun z24 v b z25 p h=>onTuple_k (P:=fun z24=>P (.For z24 v b z25 p)) h fun ts k tp h=>onL0_k (P:=fun z25=>P (.For (.Tuple ts k tp) v b z25 p)) h fun h=>K ts k tp v b p (aL (aL (aL h))) (aR (aL (aL h))) (aR (aL h)) (aR h)
theorem sinv_try1 {N : Nm} {e : Stmt} {i : Nat} {c : CE} {j : Nat} {w : PV} {P : Stmt → Prop} (h : chkS N e (.try_ i c j w) = true) (K : ∀ x xp v ap n np y yp k kk kp bp hp p,N.isVar x i = true → chkE N v c = true → notComp v = true → N.isWord n "ValueError" = true → N.isVar y j = true → litOk k w = true → shortLit w = true → P (.Try [.Assign [.Name x xp] v ap] [.ExceptHandler (some (.Name n np)) none [.Assign [.Name y yp] (.Constant k kk kp) bp] hp] [] [] p)) : P e :=
 onTry_k (P:=fun e=>P e) (show onTry e _=true from h) fun z26 z27 z28 z29 p h=>onL1_k (P:=fun z26=>P (.Try z26 z27 z28 z29 p)) h fun z30 h=>onAssign_k (P:=fun z30=>P (.Try [z30] z27 z28 z29 p)) h fun z31 v ap h=>onL1_k (P:=fun z31=>P (.Try [(.Assign z31 v ap)] z27 z28 z29 p)) h fun z32 h=>onName_k (P:=fun z32=>P (.Try [(.Assign [z32] v ap)] z27 z28 z29 p)) h fun x xp h=>onL1_k (P:=fun z27=>P (.Try [(.Assign [(.Name x xp)] v ap)] z27 z28 z29 p)) h fun z33 h=>onExceptHandler_k (P:=fun z33=>P (.Try [(.Assign [(.Name x xp)] v ap)] [z33] z28 z29 p)) h fun z34 z35 z36 hp h=>onSome_k (P:=fun z34=>P (.Try [(.Assign [(.Name x xp)] v ap)] [(.ExceptHandler z34 z35 z36 hp)] z28 z29 p)) h fun z37 h=>onName_k (P:=fun z37=>P (.Try [(.Assign [(.Name x xp)] v ap)] [(.ExceptHandler (some z37) z35 z36 hp)] z28 z29 p)) h fun n np h=>onNone_k (P:=fun z35=>P (.Try [(.Assign [(.Name x xp)] v ap)] [(.ExceptHandler (some (.Name n np)) z35 z36 hp)] z28 z29 p)) h fun h=>onL1_k (P:=fun z36=>P (.Try [(.Assign [(.Name x xp)] v ap)] [(.ExceptHandler (some (.Name n np)) none z36 hp)] z28 z29 p)) h fun z38 h=>onAssign_k (P:=fun z38=>P (.Try [(.Assign [(.Name x xp)] v ap)] [(.ExceptHandler (some (.Name n np)) none [z38] hp)] z28 z29 p)) h fun z39 z40 bp h=>onL1_k (P:=fun z39=>P (.Try [(.Assign [(.Name x xp)] v ap)] [(.ExceptHandler (some (.Name n np)) none [(.Assign z39 z40 bp)] hp)] z28 z29 p)) h fun z41 h=>onName_k (P:=fun z41=>P (.Try [(.Assign [(.Name x xp)] v ap)] [(.ExceptHandler (some (.Name n np)) none [(.Assign [z41] z40 bp)] hp)] z28 z29 p)) h fun y yp h=>onConstant_k (P:=fun z40=>P (.Try [(.Assign [(.Name x xp)] v ap)] [(.ExceptHandler (some (.Name n np)) none [(.Assign [(.Name y yp)] z40 bp)] hp)] z28 z29 p)) h fun k kk kp h=>onL0_k (P:=fun z28=>P (.Try [(.Assign [(.Name x xp)] v ap)] [(.ExceptHandler (some (.Name n np)) none [(.Assign [(.Name y yp)] (.Constant k kk kp) bp)] hp)] z28 z29 p)) h fun h=>onL0_k (P:=fun z29=>P (.Try [(.Assign [(.Name x xp)] v ap)] [(.ExceptHandler (some (.Name n np)) none [(.Assign [(.Name y yp)] (.Constant k kk kp) bp)] hp)] [] z29 p)) h fun h=>K x xp v ap n np y yp k kk kp bp hp p (aL (aL (aL (aL (aL (aL h)))))) (aR (aL (aL (aL (aL (aL h)))))) (aR (aL (aL (aL (aL h))))) (aR (aL (aL (aL h)))) (aR (aL (aL h))) (aR (aL h)) (aR h)
theorem sinv_raise {N : Nm} {e : Stmt}  {P : Stmt → Prop} (h : chkS N e .raise_ = true) (K : ∀ x xp t kk kp q p,N.isWord x "ValueError" = true → P (.Raise (some (.Call (.Name x xp) [.Constant (.str t) kk kp] [] q)) none p)) : P e :=
 onRaise_k (P:=fun e=>P e) (show onRaise e _=true from h) fun z42 z43 p h=>onSome_k (P:=fun z42=>P (.Raise z42 z43 p)) h fun z44 h=>onCall_k (P:=fun z44=>P (.Raise (some z44) z43 p)) h fun z45 z46 z47 q h=>onName_k (P:=fun z45=>P (.Raise (some (.Call z45 z46 z47 q)) z43 p)) h fun x xp h=>onL1_k (P:=fun z46=>P (.Raise (some (.Call (.Name x xp) z46 z47 q)) z43 p)) h fun z48 h=>onConstant_k (P:=fun z48=>P (.Raise (some (.Call (.Name x xp) [z48] z47 q)) z43 p)) h fun z49 kk kp h=>onstr_k (P:=fun z49=>P (.Raise (some (.Call (.Name x xp) [(.Constant z49 kk kp)] z47 q)) z43 p)) h fun t h=>onL0_k (P:=fun z47=>P (.Raise (some (.Call (.Name x xp) [(.Constant (.str t) kk kp)] z47 q)) z43 p)) h fun h=>onNone_k (P:=fun z43=>P (.Raise (some (.Call (.Name x xp) [(.Constant (.str t) kk kp)] [] q)) z43 p)) h fun h=>K x xp t kk kp q p h
theorem sinv_brk {N:Nm} {e:Stmt}  {P:Stmt→Prop} (h:chkS N e .brk=true) (K:∀ p,true=true→P (.Break p)):P e :=
 onBreak_k (P:=fun e=>P e) (show onBreak e _=true from h) fun p h=>K p h
section
variable {prog:Program} {w:World} {Γ:Ct} {d:Nat} {F:Nat→List PV→Res PV} {W:Nat} {N:Nm} {B:Bl}
theorem not_interactive (hB:B.Ok d):interactive B.env=false:=by
 unfold interactive; rw [hB.kind]; rfl
theorem sss_frz (hB:B.Ok d) (hfn:B.fenv.frame=some B.env.locals) {ss:List Stmt} {g:List Slot→Res (Fl × List Slot)} {i:Nat} (hi:i<B.vs.length) (h:SSs prog w Γ B ss g) :
  SSs prog w Γ B ss (fun ρ=>match getS ρ i with | .own l=>g (putS ρ i (.val (.list l))) | _=>g ρ):=by
 intro H ρ s Q E hs hp
 cases hg:getS ρ i with
 | unset=>simp only [hg] at hp; exact h H ρ s Q E hs hp
 | val v=>simp only [hg] at hp; exact h H ρ s Q E hs hp
 | own l =>
  simp only [hg] at hp
  obtain ⟨H',hs',ex⟩:=st_frz hB hfn hs hg (by rw [List.getElem?_eq_getElem hi]; rfl)
  exact h H' _ s Q E hs' (PostS.ext hp ex)
theorem unpack_noexc (is:List Nat) (ρ:List Slot) (q:PV):((unpackP is.length q).bind fun vs=>Res.ok (putsS ρ is vs))≠.exc:=by
 cases q <;> simp only [unpackP] <;> first | (intro z; cases z; done) | skip
 split <;> (intro z; cases z)
theorem sss_frz' (hB:B.Ok d) (hfn:B.fenv.frame=some B.env.locals) {ss:List Stmt} {t:List CS} {i:Nat} (hi:i<B.vs.length) (h:SSs prog w Γ B ss (evSs F Γ.GV W t)):SSs prog w Γ B ss (evSs F Γ.GV W (.frz i::t)) :=
 SSs.cast (sss_frz hB hfn hi h) fun ρ=>by
  show _=match (match getS ρ i with | .own l=>Res.ok (Fl.next,putS ρ i (.val (.list l))) | _=>.ok (.next,ρ)) with | .ok (.next,ρ')=>evSs F Γ.GV W t ρ' | .ok (f,ρ')=>.ok (f,ρ') | .exc=>.exc | .stuck=>.stuck
  cases getS ρ i <;> rfl
mutual
theorem chk_s (hΓ:Γ.Ok) (hF:FOk prog w Γ d F) (hB:B.Ok d) (hg:Gd Γ N B) (hfn:B.fenv.frame=some B.env.locals):∀ (c:CS) {e:Stmt},chkS N e c=true→SS prog w Γ B e (evS F Γ.GV W c)
 | .frz i,e,h=>ff h
 | .assign i c,e,h=>sinv_assign (P:=fun e=>SS prog w Γ B e (evS F Γ.GV W (.assign i c))) h fun x tp v p h1 h2 h3=>by
  have q:=hg.var h1
  rcases Bool.or_eq_true_iff.1 h3 with h3 | h3
  ·exact ss_assign hB q.1 q.2.1 h3 (chk_e hΓ hF c hB hg h2).1
  ·refine onListComp_k (P:=fun v=>compLine x tp v=true→chkE N v c=true→SS prog w Γ B (.Assign [.Name x tp] v p) (evS F Γ.GV W (.assign i c))) (show onListComp v _=true from h3) (fun a0 b0 s0 p0 _ h3 h2=>?_) h3 h2
   refine comp_of (P:=fun c=>SS prog w Γ B (.Assign [.Name x tp] (.ListComp a0 b0 s0 p0) p) (evS F Γ.GV W (.assign i c))) h2 fun e1 src cond h2=>?_
   refine inv_comp (P:=fun o e=>compLine x tp e=true→SS prog w Γ B (.Assign [.Name x tp] e p) (evS F Γ.GV W (.assign i (.comp e1 src o)))) h2 (fun elt y yp it sc q' g1 g2 g3 g4 g5 h3=>?_) h3
   exact ss_assign_comp hB hfn q.1 q.2.1 g2 (eq_of_beq (aL g3)) g5 h3 (fun C=>(chk_e hΓ hF e1 (N:=⟨sc.names,[y],N.fs,N.gs⟩) (B:=B.comp sc y C) (hB.comp (compOk_parts g2).1 y C) ⟨rfl,rfl,hg.fs,hg.gs⟩ g4).1) (chk_e hΓ hF src hB hg g1).1
 | .own i l,e,h=>sinv_own (P:=fun e=>SS prog w Γ B e (evS F Γ.GV W (.own i l))) h fun x tp es lp p h1 h2=>ss_own hB (hg.var h1).1 (hg.var h1).2.1 (chk_es hΓ hF l hB hg h2)
 | .assignT rev is c,e,h=>sinv_assignT (P:=fun e=>SS prog w Γ B e (evS F Γ.GV W (.assignT rev is c))) h fun ts k tp v p h1 h2 h3 h4=>ss_assignT hB hg.vs hg.names h1 h3 h4 (chk_e hΓ hF c hB hg h2).1
 | .aug i o c,e,h=>sinv_aug (P:=fun e=>SS prog w Γ B e (evS F Γ.GV W (.aug i o c))) h fun x tp op v p h1 h2 h3=>ss_aug hB (hg.var h1).1 (hg.var h1).2.1 h2 (chk_e hΓ hF c hB hg h3).1
 | .app i c,e,h=>sinv_app (P:=fun e=>SS prog w Γ B e (evS F Γ.GV W (.app i c))) h fun x xp m ap v q p h1 h2 h3 h4 h5=>by
  rw [eq_of_beq h2]
  exact ss_app hB (hg.var h1).1 (hg.var h1).2.1 (hg.var h1).2.2 h4 h5 (not_interactive hB) (chk_e hΓ hF c hB hg h3).1
 | .expr c,e,h=>sinv_expr (P:=fun e=>SS prog w Γ B e (evS F Γ.GV W (.expr c))) h fun v p h1 h2=>ss_expr h2 (not_interactive hB) (chk_e hΓ hF c hB hg h1).1
 | .ret c,e,h=>sinv_ret (P:=fun e=>SS prog w Γ B e (evS F Γ.GV W (.ret c))) h fun v p h1=>ss_ret (chk_e hΓ hF c hB hg h1).1
 | .if_ c x y,e,h=>sinv_if (P:=fun e=>SS prog w Γ B e (evS F Γ.GV W (.if_ c x y))) h fun t b o p h1 h2 h3=>ss_if (chk_e hΓ hF c hB hg h1).2 (chk_ss hΓ hF hB hg hfn x h2) (chk_ss hΓ hF hB hg hfn y h3)
 | .while_ c x,e,h=>sinv_while (P:=fun e=>SS prog w Γ B e (evS F Γ.GV W (.while_ c x))) h fun t b p h1 h2=>ss_while hB (chk_e hΓ hF c hB hg h1).2 (chk_ss hΓ hF hB hg hfn x h2) W
 | .for_ i c y,e,h=>sinv_for (P:=fun e=>SS prog w Γ B e (evS F Γ.GV W (.for_ i c y))) h fun x xp v b p h1 h2 h3 h4 =>
  ss_for hB (set_name hB (hg.var h1).1 (hg.var h1).2.1) (fun _ _ q=>nomatch q) h4 (chk_e hΓ hF c hB hg h2).1 (chk_ss hΓ hF hB hg hfn y h3)
 | .forT is c y,e,h=>sinv_forT (P:=fun e=>SS prog w Γ B e (evS F Γ.GV W (.forT is c y))) h fun ts k tp v b p h1 h2 h3 h4 =>
  ss_for hB (set_tuple hB hg.vs hg.names h1) (unpack_noexc is) h4 (chk_e hΓ hF c hB hg h2).1 (chk_ss hΓ hF hB hg hfn y h3)
 | .forR i c y,e,h=>sinv_forR (P:=fun e=>SS prog w Γ B e (evS F Γ.GV W (.forR i c y))) h fun x xp r rp v q b p h1 h2 h3 h4 h5 =>
  ss_forR hΓ hB (hg.var h1).1 (hg.var h1).2.1 (hg.word h2).1 (hg.word h2).2.1 (hg.word h2).2.2 h5 (chk_e hΓ hF c hB hg h3).1 (chk_ss hΓ hF hB hg hfn y h4)
 | .raise_,e,h=>sinv_raise (P:=fun e=>SS prog w Γ B e (evS F Γ.GV W .raise_)) h fun x xp t k kp q p h1=>ss_raise hΓ hB (hg.word h1).1 (hg.word h1).2.1 (hg.word h1).2.2
 | .try_ i c j v,e,h=>sinv_try1 (P:=fun e=>SS prog w Γ B e (evS F Γ.GV W (.try_ i c j v))) h fun x xp v' ap n np y yp k kk kp bp hp p h1 h2 h3 h4 h5 h6 h7 =>
  ss_try1 hΓ hB (hg.var h1).1 (hg.var h1).2.1 h3 (chk_e hΓ hF c hB hg h2).1 (hg.word h4).1 (hg.word h4).2.1 (hg.word h4).2.2 (hg.var h5).1 (hg.var h5).2.1 h6 (lit_short h7)
 | .brk,e,h=>sinv_brk (P:=fun e=>SS prog w Γ B e (evS F Γ.GV W .brk)) h fun p _=>ss_brk
theorem chk_ss (hΓ:Γ.Ok) (hF:FOk prog w Γ d F) (hB:B.Ok d) (hg:Gd Γ N B) (hfn:B.fenv.frame=some B.env.locals):∀ (l:List CS) {es:List Stmt},chkSs N es l=true→SSs prog w Γ B es (evSs F Γ.GV W l)
 | [],es,h=>onL0_k (P:=fun es=>SSs prog w Γ B es (evSs F Γ.GV W [])) (show onL0 es true=true from h) fun _=>sss_nil
 | c::t,es,h=>by
  by_cases hc:∃ i,c=.frz i
  ·obtain ⟨i,rfl⟩:=hc
   have h':(decide (i<N.vs.length) && chkSs N es t)=true:=h
   exact sss_frz' hB hfn (hg.vs ▸ of_decide_eq_true (aL h')) (chk_ss hΓ hF hB hg hfn t (aR h'))
  ·exact ss_split (P:=fun es=>SSs prog w Γ B es (evSs F Γ.GV W (c::t))) (fun i q=>hc ⟨i,q⟩) h fun e r h1 h2=>sss_cons (chk_s hΓ hF hB hg hfn c h1) (chk_ss hΓ hF hB hg hfn t h2)
end
end
end Mine
namespace Mine
open PySem PySem.W PyProof.Rows
structure DefOk (Γ:Ct) (x:Str) (vars:List Str) (k:Nat) (cs:List CS):Prop where
 there:∃ a o params body scope pm code doc,Γ.mg x=some (.ref a)∧Γ.Base.get? a=some o∧o.data=.func (Calls.docDef x params body scope pm code doc)∧Γ.Base.CodeRec code x ∧
  (∀ ws:List Value,ws.length=k→bindArgs (Calls.docDef x params body scope pm code doc) ⟨ws,[]⟩=pure ((vars.take k).zip ws)) ∧
  chkSs ⟨scope.names,vars,Γ.fs,Γ.gs⟩ body cs=true∧scope.isCoroutine=false∧scope.isGenerator=false∧scope.kind=.function∧(∀ x∈scope.names,x.2≠.cell) ∧
  (∀ y∈vars.take k,scope.names.lookup y=some .local)
 nodup:vars.Nodup
 le:k≤vars.length
theorem zip_sub:∀ (xs:List Str) (ws:List Value),List.Sublist ((xs.zip ws).map (·.1)) xs
 | [],_=>by simp
 | x::r,[]=>by simp
 | x::r,v::t=>by simpa using zip_sub r t
theorem zip_lookup {xs:List Str} {ws:List Value} (hn:xs.Nodup):∀ {i:Nat} {x:Str} {v:Value},xs[i]?=some x→ws[i]?=some v→((xs.zip ws).reverse).lookup x=some v:=by
 have key:∀ (l:List (Str × Value)),(l.map (·.1)).Nodup→∀ {x:Str} {v:Value},(x,v)∈l→l.lookup x=some v:=by
  intro l
  induction l with
  | nil=>intro _ x v h; cases h
  | cons p r ih =>
   intro hd x v h
   obtain ⟨a,b⟩:=p
   rw [List.map_cons,List.nodup_cons] at hd
   rw [List.lookup_cons]
   rcases List.mem_cons.1 h with e | h
   ·cases e; simp
   ·have:x≠a:=fun e=>hd.1 (by rw [← e]; exact List.mem_map.2 ⟨(x,v),h,rfl⟩)
    have hb:(x == a)=false:=by simpa using this
    rw [hb]; exact ih hd.2 h
 intro i x v h1 h2
 apply key
 ·rw [List.map_reverse]
  unfold List.Nodup
  rw [List.pairwise_reverse]
  have h3:((xs.zip ws).map (·.1)).Nodup:=hn.sublist (zip_sub xs ws)
  exact List.Pairwise.imp (fun h=>Ne.symm h) h3
 ·rw [List.mem_reverse]
  have:(xs.zip ws)[i]?=some (x,v):=by
   rw [List.getElem?_zip_eq_some]; exact ⟨h1,h2⟩
  exact List.mem_of_getElem? this
theorem startS_get {n k:Nat} {args:List PV} (h:args.length=k) (hk:k≤n) (i:Nat):getS (startS n k args) i=match args[i]? with | some p=>.val p | none=>.unset:=by
 have e:∀ (l:List Slot) (i:Nat),getS l i=l[i]?.getD .unset:=by
  intro l
  induction l with
  | nil=>intro i; simp [getS]
  | cons a r ih=>intro i; cases i <;> simp [getS,ih]
 rw [e]
 unfold startS
 by_cases hi:i<args.length
 ·rw [List.getElem?_append_left (by simpa using hi)]
  simp [hi]
 ·rw [List.getElem?_append_right (by simpa using Nat.le_of_not_lt hi),List.getElem?_eq_none (Nat.le_of_not_lt hi)]
  simp only [List.getElem?_replicate]
  split <;> rfl
theorem frames_low {H h:Heap}:∀ {l:List Env},h.FunFrames H l→∀ {v:Env} {L:Addr},v∈l→v.frame=some L→L<h.objs.size
 | [],_,_,_,hv,_=>by cases hv
 | u::r,⟨_,⟨L',o',hf',_,ho',_⟩,hr'⟩,v,L,hv,hL=>by
  rcases List.mem_cons.1 hv with rfl | hv
  ·rw [hL] at hf'; cases hf'; exact Heap.lt_size ho'
  ·exact frames_low hr' hv hL
section
variable {prog:Program} {w:World} {Γ:Ct} {d:Nat} {F:Nat→List PV→Res PV} {W:Nat}
theorem con_code (hΓ:Γ.Ok) (hF:∀ f x,Γ.fs[f]?=some x→FnAt Γ x∧∀ args,Con prog w Γ d x args (F f args)) {x:Str} {vars:List Str} {k:Nat} {cs:List CS} (hd:DefOk Γ x vars k cs) (args:List PV) :
  Con prog w Γ (d+1) x args (if args.length=k then outS (evSs F Γ.GV W cs (startS vars.length k args)) else .stuck):=by
 intro a A H l s ws Q E hm hpre hr hp
 by_cases hk:args.length=k
 ·rw [if_pos hk] at hp
  obtain ⟨a',o,params,body,scope,pm,code,doc,hm',ho,hdat,hcr,hbind,hchk,hco,hgen,hkd,hcell,hloc⟩:=hd.there
  rw [hm] at hm'; obtain rfl:a=a':=by simpa using hm'
  have hbs:Γ.Base.StaysIn s.heap:=stays_trans hpre.base hpre.stays
  have hlen:ws.length=k:=by rw [hr.length,hk]
  refine wpAny_call (call_plain (name:=x) (params:=params) (body:=body) (scope:=scope) (pm:=pm) (cd:=code) (doc:=doc) (o:=o) (binds:=(vars.take k).zip ws) (by have:=hpre.depth; lia) (hbs _ _ ho) hdat (hΓ.nolimit.keeps hbs) (hcr.keeps hbs) (hbind ws hlen)
   (fun y hy=>hloc y.1 (List.of_mem_zip hy).1) (fun h₁ Fr=>?_) hco hgen hkd hcell)
  generalize henv:envOf x scope s.heap.objs.size a code=env
  have e1:env.scope=scope:=by rw [← henv]; rfl
  have e2:env.locals=s.heap.objs.size:=by rw [← henv]; rfl
  have e3:env.frame=some s.heap.objs.size:=by rw [← henv]; rfl
  have hnone:s.heap.get? s.heap.objs.size=none:=none_of_size (Nat.le_refl _)
  have hHn:H.get? s.heap.objs.size=none:=none_of_stays hpre.stays hnone
  let B:Bl:={ env:=env,fenv:=env,outer:=l,A:=A.deeper env,N₀:=s.heap.objs.size,vs:=vars }
  have hB:B.Ok d:=by
   refine ⟨by show env.scope.kind=_; rw [e1]; exact hkd,by show env.globals=_; rw [← henv]; rfl,by show env.builtins=_; rw [← henv]; rfl,rfl,?_,hpre.hand,?_,?_,hd.nodup,?_⟩
   ·show A.frames.map (env::·)=some (env::l); rw [hpre.stack]; rfl
   ·show A.depth+1+d≤_; have:=hpre.depth; lia
   ·show A.units+3+8 * d+100≤_; have:=hpre.units; lia
   ·intro v hv L hL
    exact frames_low hpre.frames hv hL
  have hst:St Γ B H (startS vars.length k args) { s with heap:=h₁,toks:=s.toks+((vars.take k).zip ws).length }:=by
   have hkeep:s.heap.StaysIn h₁:=Fr.keep
   have hff1:h₁.FunFrames H l:=hpre.frames.of_keeps fun b o ho _=>⟨o,hkeep b o ho,rfl⟩
   obtain ⟨ol,es,ep,hol,hdl,_⟩:=id Fr.ns
   refine ⟨hpre.base,stays_trans hpre.stays hkeep,⟨?_,⟨s.heap.objs.size,ol,e3,hHn,hol,fun vs q=>by rw [hdl] at q; cases q⟩,hff1⟩,_,fun _=>0,by show h₁.Ns env.locals _; rw [e2]; exact Fr.ns,by show H.get? env.locals=none; rw [e2]; exact hHn,by show s.heap.objs.size≤env.locals; rw [e2]; exact Nat.le_refl _,?_,?_⟩
   ·show env.scope.kind≠.module; rw [e1,hkd]; decide
   ·intro i y hy
    rw [startS_get hk hd.le]
    cases hi:args[i]? with
    | none=>trivial
    | some p =>
     obtain ⟨v,hv,hrv⟩:=hr.get hi
     refine ⟨v,?_,hrv⟩
     have hik:i<k:=by rw [← hk]; exact (List.getElem?_eq_some_iff.1 hi).1
     exact zip_lookup (hd.nodup.sublist (List.take_sublist _ _)) (by rw [List.getElem?_take,if_pos hik]; exact hy) hv
   ·intro i j l1 l2 _ h1
    rw [startS_get hk hd.le] at h1
    split at h1 <;> cases h1
  have key:=chk_ss (W:=W) hΓ hF hB (N:=⟨scope.names,vars,Γ.fs,Γ.gs⟩) ⟨by show scope.names=env.scope.names; rw [e1],rfl,rfl,rfl⟩ (by show env.frame=some env.locals; rw [e3,e2]) cs hchk
  refine key H _ _ _ _ hst ?_
  have toExt:∀ {H':Heap} {s':Shared},ExtS s.heap.objs.size H { s with heap:=h₁,toks:=s.toks+((vars.take k).zip ws).length } H' s'→Ext H s H' s':=fun {H' s'} ex =>
   ⟨ex.grow,fun b o hb nf hn=>ex.old b o (Heap.lt_size hb) (Fr.keep b o hb) nf hn,ex.stays,fun b o hb nf=>ex.ups b o (Heap.lt_size hb) (Fr.keep b o hb) nf,ex.same⟩
  cases hev:evSs F Γ.GV W cs (startS vars.length k args) with
  | stuck=>rw [hev] at hp; exact hp.elim
  | exc =>
   rw [hev] at hp
   intro e s' H' ex fl
   refine leave_flown (A:=A.deeper env) (by show A.frames.map (env::·)=some (env::l); rw [hpre.stack]; rfl) e3 fl fun h' a0 fw u=>?_
   exact hp e { s' with heap:=h' } H' ⟨(toExt ex).grow,(toExt ex).old,fw.1,(toExt ex).ups.trans u,(toExt ex).same⟩ (.inl ⟨a0,fw⟩)
  | ok q =>
   obtain ⟨fl,ρ'⟩:=q
   rw [hev] at hp
   intro f s' H' ex _ hfr
   cases fl with
   | next=>cases hfr; exact hp.ok (toExt ex) (by rw [Rep])
   | brk=>exact hp.elim
   | ret p=>obtain ⟨v,rfl,hrv⟩:=hfr; exact hp.ok (toExt ex) hrv
 ·rw [if_neg hk] at hp; exact hp.elim
end
end Mine
namespace Mine
open PySem PySem.W PyProof.Rows
section
variable {prog:Program} {w:World} {Γ:Ct}
theorem con_all (hΓ:Γ.Ok) (T:Nat→Option CF) (W:Nat) (hfn:∀ (f:Nat) (x:Str),Γ.fs[f]?=some x→FnAt Γ x)
  (hT:∀ (f:Nat) (x:Str),Γ.fs[f]?=some x→match T f with
   | some (.code vars k cs)=>DefOk Γ x vars k cs
   | some (.native g)=>∀ d args,Con prog w Γ (d+1) x args (g args)
   | none=>True) :
  ∀ (d f:Nat) (x:Str),Γ.fs[f]?=some x→∀ args,Con prog w Γ d x args (den T Γ.GV W d f args)
 | 0,f,x,hx,args=>by
  intro a A H l s ws Q E hm hpre hr hp
  rw [den] at hp; exact hp.elim
 | d+1,f,x,hx,args=>by
  have ih:=con_all hΓ T W hfn hT d
  have h:=hT f x hx
  rw [den]
  cases hc:T f with
  | none=>intro a A H l s ws Q E hm hpre hr hp; exact hp.elim
  | some c =>
   rw [hc] at h
   cases c with
   | code vars k cs=>exact con_code hΓ (fun f x hx=>⟨hfn f x hx,ih f x hx⟩) h args
   | native g=>exact h d args
end
end Mine
namespace Mine
inductive PR (α:Type) where
 | none
 | err
 | stuck
 | ok (a:α) (r:List Int)
 deriving DecidableEq
noncomputable def PR.bind {α β:Type}:PR α→(α→List Int→PR β)→PR β
 | .none,_=>.none
 | .err,_=>.err
 | .stuck,_=>.stuck
 | .ok a r,f=>f a r
noncomputable def isDig (x:Int):Bool:=decide (48≤x) && decide (x≤57)
noncomputable def isLet (x:Int):Bool:=(decide (65≤x) && decide (x≤90)) || (decide (97≤x) && decide (x≤122))
noncomputable def isTagC (x:Int):Bool:=isLet x || isDig x || x == 45
noncomputable def isAtomC (x:Int):Bool:=!(decide (x<33) || decide (126<x)) && !decide (x∈[34,37,40,41,42,92,93,123])
noncomputable def upC (x:Int):Int:=if 97≤x∧x≤122 then x - 32 else x
noncomputable def up (l:List Int):List Int:=l.map upC
noncomputable def clamp (n:Int):Int:=if 4294967296≤n then 4294967296 else n
noncomputable def scanN (p:Int→Bool):Nat→List Int→Option (List Int)
 | 0,_=>none
 | _+1,[]=>some []
 | n+1,c::t=>if p c then scanN p n t else some (c::t)
noncomputable def ahead (x r:List Int):List Int:=x.take (x.length - r.length)
noncomputable def runP (W:Nat) (p:Int→Bool) (x:List Int):PR (List Int) :=
 match scanN p W x with
 | none=>.stuck
 | some []=>.none
 | some (c::t)=>if (c::t).length<x.length then .ok (ahead x (c::t)) (c::t) else .err
noncomputable def crlfP (x:List Int):PR Unit :=
 if x.take 2=[13,10].take (x.take 2).length then (if (x.take 2).length<2 then .none else .ok () (x.drop 2)) else .err
noncomputable def strV (l:List Int):PV:=.tuple [.str [115,116,114,105,110,103],.bytes l]
noncomputable def listV (l:List PV):PV:=.tuple [.str [108,105,115,116],.list l]
noncomputable def atomV (l:List Int):PV:=.tuple [.str [97,116,111,109],.bytes l]
noncomputable def numV (n:Int):PV:=.tuple [.str [110,117,109,98,101,114],.int n]
noncomputable def nilV:PV:=.tuple [.str [110,105,108]]
noncomputable def quoN:Nat→List Int→List Int→PR PV
 | 0,_,_=>.stuck
 | _+1,_,[]=>.none
 | n+1,acc,c::t =>
  if c=34 then .ok (strV acc) t
  else if c=92 then match t with
   | []=>.none
   | y::u=>if y=34∨y=92 then quoN n (acc++[y]) u else .err
  else if (0<c∧c<128)∧c≠10∧c≠13 then quoN n (acc++[c]) t else .err
noncomputable def litN:Nat→Int→List Int→Option (Int × List Int)
 | 0,_,_=>none
 | _+1,v,[]=>some (v,[])
 | n+1,v,c::t=>if isDig c then litN n (clamp (v * 10+(c - 48))) t else some (v,c::t)
noncomputable def litP (W:Nat) (x:List Int):PR PV :=
 match litN W 0 x with
 | none=>.stuck
 | some (n,r) =>
  if n<4294967296 then
   if r.take 3=[125,13,10].take (r.take 3).length then
    if r.length<x.length∨(r.take 3).length=0 then
     if (0:Int)∈(r.drop 3).take n.toNat then .err
     else if (r.take 3).length<3∨(((r.drop 3).take n.toNat).length:Int)<n then .none
     else .ok (strV ((r.drop 3).take n.toNat)) (r.drop (3+n.toNat))
    else .err
   else .err
  else .err
noncomputable def allDig (l:List Int):Bool:=!l.isEmpty && l.all isDig
noncomputable def digVal (l:List Int):Int:=l.foldl (fun n x=>clamp (n * 10+(x - 48))) 0
noncomputable def skip92 (x:List Int):List Int:=match x with | 92::t=>t | _=>x
noncomputable def wordEnd (w r:List Int):PR PV :=
 if w≠[]∧w≠[92] then
  if w.length=3∧up w=[78,73,76] then .ok nilV r
  else if allDig w then (if digVal w<4294967296 then .ok (numV (digVal w)) r else .err)
  else .ok (atomV w) r
 else .err
noncomputable def wordP (W:Nat) (x:List Int):PR PV :=
 match scanN isAtomC W (skip92 x) with
 | none=>.stuck
 | some []=>.none
 | some (c::t)=>wordEnd (ahead x (c::t)) (c::t)
noncomputable def itemsN (v:List Int→PR PV):Nat→List PV→List Int→PR PV
 | 0,_,_=>.stuck
 | n+1,acc,x=>(v x).bind fun a r=>match r with
  | []=>.none
  | c::t=>if c=41 then .ok (listV (acc++[a])) t else if c=32 then itemsN v n (acc++[a]) t else .err
noncomputable def lstP (W:Nat) (v:List Int→PR PV) (x:List Int):PR PV :=
 match x with
 | []=>.none
 | c::t=>if c=41 then .ok (listV []) t else itemsN v W [] (c::t)
noncomputable def valP (W:Nat):Nat→List Int→PR PV
 | dep,x=>match x with
  | []=>.none
  | c::t =>
   if c=40 then (match dep with | 0=>.err | dep+1=>lstP W (valP W dep) t)
   else if c=34 then quoN W [] t
   else if c=123 then litP W t
   else wordP W (c::t)
noncomputable def valsN (v:List Int→PR PV):Nat→List PV→List Int→PR (List PV)
 | 0,_,_=>.stuck
 | _+1,_,[]=>.none
 | n+1,acc,c::t=>if c=32 then (v t).bind fun a r=>valsN v n (acc++[a]) r else (crlfP (c::t)).bind fun _ r=>.ok acc r
noncomputable def cmdP (W dep:Nat) (x:List Int):PR PV :=
 (runP W isTagC x).bind fun tag r=>match r with
  | []=>.none
  | c::t=>if c=32 then (runP W isLet t).bind fun name r'=>(valsN (valP W dep) W [] r').bind fun vs r''=>.ok (.tuple [.bytes tag,.bytes (up name),.list vs]) r'' else .err
noncomputable def textP (W:Nat) (x:List Int):PR (List Int) :=
 match scanN (fun c=>decide (c≠10) && decide (c≠13) && decide (c≠0)) W x with
 | none=>.stuck
 | some []=>(match x with
  | []=>.none
  | c::_=>if c=91 then .err else .none)
 | some (c::t) =>
  if c=13 then
   match ahead x (c::t) with
   | []=>.err
   | a::u=>if a=91 then .err else (crlfP (c::t)).bind fun _ r=>.ok (a::u) r
  else .err
noncomputable def statuses:List (List Int):=[[79,75],[78,79],[66,65,68],[66,89,69]]
noncomputable def statP (x:List Int):Option (List Int):=statuses.find? fun w=>decide ((x.take (w.length+1)).length=w.length+1) && decide (up (x.take (w.length+1))=w++[32])
noncomputable def codeN (v:List Int→PR PV):Nat→List PV→List Int→PR (List PV)
 | 0,_,_=>.stuck
 | n+1,acc,x=>(v x).bind fun a r=>match r with
  | []=>.none
  | c::t=>if c=93 then .ok (acc++[a]) t else if c=32 then codeN v n (acc++[a]) t else .err
noncomputable def statArg (l:List PV):Bool:=match l with
 | []=>false
 | v::r=>r.isEmpty && @PV.casesOn (fun _=>Bool) v false (fun _=>false) (fun _=>false) (fun _=>false) (fun _=>false) (fun w=>decide (up w∈statuses)) (fun _=>false) (fun _=>false) false
noncomputable def statTup (l:List PV):Bool:=match l with
 | []=>false
 | v::r=>@PV.casesOn (fun _=>Bool) v false (fun _=>false) (fun _=>false) (fun _=>false) (fun s=>s == [97,116,111,109] && statArg r) (fun _=>false) (fun _=>false) (fun _=>false) false
noncomputable def isStat (v:PV):Bool:=@PV.casesOn (fun _=>Bool) v false (fun _=>false) (fun _=>false) (fun _=>false) (fun _=>false) (fun _=>false) statTup (fun _=>false) false
noncomputable def dataN (v:List Int→PR PV):Nat→List PV→List Int→PR (List PV)
 | 0,_,_=>.stuck
 | n+1,acc,x=>(v x).bind fun a r =>
  if acc.isEmpty∧isStat a=true then .err
  else match r with
   | []=>.none
   | c::t=>if c=32 then dataN v n (acc++[a]) t else (crlfP (c::t)).bind fun _ r=>.ok (acc++[a]) r
noncomputable def finP (W:Nat) (tag w:List Int) (code:PV) (z:List Int):PR PV :=
 (textP W z).bind fun t r=>.ok (.tuple [.str [115,116,97,116,117,115],.bytes tag,.bytes w,code,.bytes t]) r
noncomputable def codeEnd (W:Nat) (tag w:List Int) (vs:List PV) (r:List Int):PR PV:=match r with
 | []=>.none
 | c::u=>if c=32 then finP W tag w (.list vs) u else .err
noncomputable def statRest (W dep:Nat) (tag w:List Int) (y:List Int):PR PV:=match y with
 | []=>.none
 | c::t=>if c=91 then (codeN (valP W dep) W [] t).bind (codeEnd W tag w) else finP W tag w .none (c::t)
noncomputable def restP (W dep:Nat) (tag:List Int) (x:List Int):PR PV :=
 match statP x with
 | some w=>statRest W dep tag w (x.drop (w.length+1))
 | none =>
  if tag≠[] then
   (if x.length≤4∧statuses.any (fun w=>decide ((w++[32]).take (up x).length=up x))=true then .none else .err)
  else (dataN (valP W dep) W [] x).bind fun vs r=>.ok (.tuple [.str [100,97,116,97],.list vs]) r
noncomputable def goP (W dep:Nat) (tag r:List Int):PR PV:=match r with
 | []=>.none
 | c::t=>if c=32 then restP W dep tag t else .err
noncomputable def contP (W:Nat) (t:List Int):PR PV:=match t with
 | []=>.none
 | b::u=>if b=32 then (textP W u).bind fun tx r=>.ok (.tuple [.str [99,111,110,116,105,110,117,101],.bytes tx]) r else .err
noncomputable def lineP (W dep:Nat) (x:List Int):PR PV :=
 match x with
 | []=>(runP W isTagC x).bind (goP W dep)
 | c::t =>
  if c=43 then contP W t
  else if c=42 then goP W dep [] t
  else (runP W isTagC (c::t)).bind (goP W dep)
end Mine
namespace Mine
theorem den_code {T:Nat→Option CF} {G:Nat→Res PV} {W d f:Nat} {vs:List PySem.Str} {k:Nat} {body:List CS} {args:List PV} (h:T f=some (.code vs k body)) (hk:args.length=k) :
  den T G W (d+1) f args=outS (evSs (den T G W d) G W body (startS vs.length k args)):=by
 rw [den,h]; simp only [hk,if_true]
noncomputable def ofPR (l:List Int):PR PV→Res PV
 | .none=>.ok .none
 | .err=>.exc
 | .stuck=>.stuck
 | .ok v r=>.ok (.tuple [v,.int ((l.length:Int) - (r.length:Int))])
theorem b_ok {α β:Type} (a:α) (f:α→Res β):(Res.ok a).bind f=f a:=rfl
theorem b_exc {α β:Type} (f:α→Res β):(Res.exc:Res α).bind f=.exc:=rfl
theorem b_stuck {α β:Type} (f:α→Res β):(Res.stuck:Res α).bind f=.stuck:=rfl
theorem c_eqi (a b:Int):cmpP .eq (.int a) (.int b)=.ok (a == b):=rfl
theorem c_nei (a b:Int):cmpP .ne (.int a) (.int b)=.ok (!(a == b)):=rfl
theorem c_lti (a b:Int):cmpP .lt (.int a) (.int b)=.ok (decide (a<b)):=rfl
theorem c_lei (a b:Int):cmpP .le (.int a) (.int b)=.ok (decide (a≤b)):=rfl
theorem c_gti (a b:Int):cmpP .gt (.int a) (.int b)=.ok (decide (b<a)):=rfl
theorem c_gei (a b:Int):cmpP .ge (.int a) (.int b)=.ok (decide (b≤a)):=rfl
theorem c_eqb (a b:List Int):cmpP .eq (.bytes a) (.bytes b)=.ok (a == b):=rfl
theorem c_neb (a b:List Int):cmpP .ne (.bytes a) (.bytes b)=.ok (!(a == b)):=rfl
theorem c_eqs (a b:List Nat):cmpP .eq (.str a) (.str b)=.ok (a == b):=rfl
theorem c_nes (a b:List Nat):cmpP .ne (.str a) (.str b)=.ok (!(a == b)):=rfl
theorem c_is (a:PV):cmpP .is_ a .none=.ok (isNone a):=rfl
theorem c_isNot (a:PV):cmpP .isNot a .none=.ok (!isNone a):=rfl
theorem c_in (x:PV) (l:List PV):cmpP .in_ x (.tuple l)=ofO (memD 12 x l):=rfl
theorem c_notIn (x:PV) (l:List PV):cmpP .notIn x (.tuple l)=ofO ((memD 12 x l).map (!·)):=rfl
theorem c_notInB (n:Int) (l:List Int):cmpP .notIn (.int n) (.bytes l)=if 0≤n∧n<256 then .ok (!decide (n∈l)) else .stuck:=rfl
theorem t_none:truP .none=.ok false:=rfl
theorem t_bool (b:Bool):truP (.bool b)=.ok b:=rfl
theorem t_int (i:Int):truP (.int i)=.ok (i != 0):=rfl
theorem o_addi (a b:Int):binP .add (.int a) (.int b)=.ok (.int (a+b)):=rfl
theorem o_subi (a b:Int):binP .sub (.int a) (.int b)=.ok (.int (a - b)):=rfl
theorem o_muli (a b:Int):binP .mul (.int a) (.int b)=if a.natAbs≤4294967296∧b.natAbs≤4294967296 then .ok (.int (a * b)) else .stuck:=rfl
theorem o_modi (a b:Int):binP .mod (.int a) (.int b)=if 0<b then .ok (.int (a % b)) else .stuck:=rfl
theorem o_addb (a b:List Int):binP .add (.bytes a) (.bytes b)=if a.length+b.length≤lim then .ok (.bytes (a++b)) else .stuck:=rfl
theorem u_addi (a b:Int):augP .add (.int a) (.int b)=.ok (.int (a+b)):=rfl
theorem l_b (l:List Int):lenP (.bytes l)=.ok (.int l.length):=rfl
theorem l_t (l:List PV):lenP (.tuple l)=.ok (.int l.length):=rfl
theorem l_l (l:List PV):lenP (.list l)=.ok (.int l.length):=rfl
theorem i_b (l:List Int) (i:Int):idxP (.bytes l) (.int i)=if 0≤i then ofI (l[i.toNat]?.map PV.int) else .stuck:=rfl
theorem i_t0 (a:PV) (l:List PV):idxP (.tuple (a::l)) (.int 0)=.ok a:=rfl
theorem i_t1 (a b:PV) (l:List PV):idxP (.tuple (a::b::l)) (.int 1)=.ok b:=rfl
theorem e_none:endP none=.ok none:=rfl
theorem e_some (i:Int):endP (some (.int i))=if 0≤i then .ok (some i) else .stuck:=rfl
theorem s_b (l:List Int) (lo hi:Option Int):slcP (.bytes l) lo hi=.ok (.bytes (cutL l lo hi)):=rfl
theorem r_ret (v:PV) (ρ:List Slot):outS (.ok (.ret v,ρ))=.ok v:=rfl
theorem r_next (ρ:List Slot):outS (.ok (.next,ρ))=.ok .none:=rfl
theorem r_exc:outS .exc=.exc:=rfl
theorem r_stuck:outS .stuck=.stuck:=rfl
theorem it_b (l:List Int):itemsP (.bytes l)=.ok (l.map PV.int):=rfl
theorem it_t (l:List PV):itemsP (.tuple l)=.ok l:=rfl
theorem it_l (l:List PV):itemsP (.list l)=.ok l:=rfl
theorem f_nil (set:List Slot→PV→Res (List Slot)) (b:List Slot→Res (Fl × List Slot)) (ρ:List Slot):forN set b [] ρ=.ok (.next,ρ):=rfl
theorem f_cons (set:List Slot→PV→Res (List Slot)) (b:List Slot→Res (Fl × List Slot)) (v:PV) (r:List PV) (ρ:List Slot):forN set b (v::r) ρ=(set ρ v).bind fun ρ' =>
   match b ρ' with
   | .ok (.next,ρ'')=>forN set b r ρ''
   | .ok (.brk,ρ'')=>.ok (.next,ρ'')
   | .ok (.ret v,ρ'')=>.ok (.ret v,ρ'')
   | .exc=>.exc
   | .stuck=>.stuck:=rfl
theorem w_succ (t:List Slot→Res Bool) (b:List Slot→Res (Fl × List Slot)) (n:Nat) (ρ:List Slot):whileN t b (n+1) ρ=(t ρ).bind fun c=>if c then
   match b ρ with
   | .ok (.next,ρ')=>whileN t b n ρ'
   | .ok (.brk,ρ')=>.ok (.next,ρ')
   | .ok (.ret v,ρ')=>.ok (.ret v,ρ')
   | .exc=>.exc
   | .stuck=>.stuck
  else .ok (.next,ρ):=rfl
section
variable {F:Nat→List PV→Res PV} {G:Nat→Res PV} {ρ:List Slot} {i:Nat} {v:PV} {l:List CE} {a b c e:CE} {o p:COp} {q:BOp}
theorem xlit:evE F G (.lit v) ρ=.ok v:=rfl
theorem xneg:evE F G (.neg i) ρ=.ok (.int (-(i:Int))):=rfl
theorem xvar:evE F G (.var i) ρ=match getS ρ i with
  | .val v=>.ok v
  | _=>.stuck:=rfl
theorem xglob:evE F G (.glob i) ρ=G i:=rfl
theorem xsf {s:List Nat} {x:UInt64}:evE F G (.strFlt s x) ρ=.ok (.tuple [.str s,.flt x]):=rfl
theorem xtup:evE F G (.tup l) ρ=(evEs F G l ρ).bind fun vs=>if vs.length≤lim then .ok (.tuple vs) else .stuck:=rfl
theorem xlst:evE F G (.lst l) ρ=(evEs F G l ρ).bind fun vs=>if vs.length≤lim then .ok (.list vs) else .stuck:=rfl
theorem xdict:evE F G .dict0 ρ=.ok .dict0:=rfl
theorem xbin:evE F G (.bin q a b) ρ=(evE F G a ρ).bind fun x=>(evE F G b ρ).bind fun y=>binP q x y:=rfl
theorem xcmp:evE F G (.cmp o a b) ρ=(evE F G a ρ).bind fun x=>(evE F G b ρ).bind fun y=>(cmpP o x y).bind fun r=>.ok (.bool r):=rfl
theorem xcmp2:evE F G (.cmp2 o p a b c) ρ=(evE F G a ρ).bind fun x=>(evE F G b ρ).bind fun y=>(cmpP o x y).bind fun r =>
   if r then (evE F G c ρ).bind fun z=>(cmpP p y z).bind fun q=>.ok (.bool q) else .ok (.bool false):=rfl
theorem xand:evE F G (.and_ l) ρ=evAnd F G l ρ:=rfl
theorem xor:evE F G (.or_ l) ρ=evOr F G l ρ:=rfl
theorem xnot:evE F G (.not_ a) ρ=(evE F G a ρ).bind fun x=>(truP x).bind fun b=>.ok (.bool (!b)):=rfl
theorem xite:evE F G (.ite c a b) ρ=(evE F G c ρ).bind fun x=>(truP x).bind fun t=>if t then evE F G a ρ else evE F G b ρ:=rfl
theorem xidx:evE F G (.idx a b) ρ=(evE F G a ρ).bind fun x=>(evE F G b ρ).bind fun y=>idxP x y:=rfl
theorem xslc {lo hi:Option CE}:evE F G (.slc a lo hi) ρ=(evE F G a ρ).bind fun x=>(evO F G lo ρ).bind fun l=>(evO F G hi ρ).bind fun h =>
   (endP l).bind fun l'=>(endP h).bind fun h'=>slcP x l' h':=rfl
theorem xcall:evE F G (.call i l) ρ=(evEs F G l ρ).bind fun vs=>F i vs:=rfl
theorem xlen:evE F G (.len (.var i)) ρ=match getS ρ i with
  | .val v=>lenP v
  | .own l=>.ok (.int l.length)
  | .unset=>.stuck:=rfl
theorem xisin {t:List Ty}:evE F G (.isin a t) ρ=(evE F G a ρ).bind fun x=>if isBool x then .stuck else .ok (.bool (t.any (isP x))):=rfl
theorem xisin1 {t:Ty}:evE F G (.isin1 a t) ρ=(evE F G a ρ).bind fun x=>if isBool x then .stuck else .ok (.bool (isP x t)):=rfl
theorem xmkB:evE F G (.mkBytes a) ρ=(evE F G a ρ).bind bytesP:=rfl
theorem xtyp {t:Ty}:evE F G (.typeIs a t) ρ=(evE F G a ρ).bind fun x=>.ok (.bool (isP x t)):=rfl
theorem xjoin:evE F G (.join a b) ρ=(evE F G a ρ).bind fun x=>(evE F G b ρ).bind fun y=>joinP x y:=rfl
theorem xcomp:evE F G (.comp a b none) ρ=(evE F G b ρ).bind fun x=>(itemsP x).bind fun l =>
   (mapR (fun v=>evE F G a [.val v]) l).bind fun vs=>.ok (.list vs):=rfl
theorem xO:evO F G none ρ=.ok none:=rfl
theorem xO1:evO F G (some e) ρ=(evE F G e ρ).bind fun v=>.ok (some v):=rfl
theorem xE:evEs F G [] ρ=.ok []:=rfl
theorem xE1:evEs F G (e::l) ρ=(evE F G e ρ).bind fun v=>(evEs F G l ρ).bind fun vs=>.ok (v::vs):=rfl
theorem xA1:evAnd F G [a] ρ=evE F G a ρ:=rfl
theorem xA2:evAnd F G (a::b::l) ρ=(evE F G a ρ).bind fun x=>(truP x).bind fun t=>if t then evAnd F G (b::l) ρ else .ok x:=rfl
theorem xR1:evOr F G [a] ρ=evE F G a ρ:=rfl
theorem xR2:evOr F G (a::b::l) ρ=(evE F G a ρ).bind fun x=>(truP x).bind fun t=>if t then .ok x else evOr F G (b::l) ρ:=rfl
theorem xg0 {s:Slot} {r:List Slot}:getS (s::r) 0=s:=rfl
theorem xg1 {s:Slot} {r:List Slot} {n:Nat}:getS (s::r) (n+1)=getS r n:=rfl
theorem xp0 {s t:Slot} {r:List Slot}:putS (s::r) 0 t=t::r:=rfl
theorem xp1 {s t:Slot} {r:List Slot} {n:Nat}:putS (s::r) (n+1) t=s::putS r n t:=rfl
variable {W:Nat} {s:CS} {r:List CS} {ts us:List CS}
theorem xfrz:evS F G W (.frz i) ρ=match getS ρ i with
  | .own l=>.ok (.next,putS ρ i (.val (.list l)))
  | _=>.ok (.next,ρ):=rfl
theorem xset:evS F G W (.assign i e) ρ=(evE F G e ρ).bind fun v=>.ok (.next,putS ρ i (.val v)):=rfl
theorem xown:evS F G W (.own i l) ρ=(evEs F G l ρ).bind fun vs=>if vs.length≤lim then .ok (.next,putS ρ i (.own vs)) else .stuck:=rfl
theorem xsetT {rev:Bool} {is:List Nat}:evS F G W (.assignT rev is e) ρ=(evE F G e ρ).bind fun v=>(unpackP is.length v).bind fun vs=>.ok (.next,if rev then putsS ρ is.reverse vs.reverse else putsS ρ is vs):=rfl
theorem xaug:evS F G W (.aug i q e) ρ=match getS ρ i with
  | .val x=>(evE F G e ρ).bind fun y=>(augP q x y).bind fun v=>.ok (.next,putS ρ i (.val v))
  | _=>.stuck:=rfl
theorem xapp:evS F G W (.app i e) ρ=match getS ρ i with
  | .own l=>(evE F G e ρ).bind fun v=>if l.length<lim then .ok (.next,putS ρ i (.own (l++[v]))) else .stuck
  | _=>.stuck:=rfl
theorem xexpr:evS F G W (.expr e) ρ=(evE F G e ρ).bind fun v=>if isNone v then .ok (.next,ρ) else .stuck:=rfl
theorem xret:evS F G W (.ret e) ρ=(evE F G e ρ).bind fun v=>.ok (.ret v,ρ):=rfl
theorem xif:evS F G W (.if_ c ts us) ρ=(evB F G c ρ).bind fun t=>if t then evSs F G W ts ρ else evSs F G W us ρ:=rfl
theorem xwhile:evS F G W (.while_ c ts) ρ=whileN (fun ρ=>evB F G c ρ) (fun ρ=>evSs F G W ts ρ) W ρ:=rfl
theorem xfor:evS F G W (.for_ i e ts) ρ=(evE F G e ρ).bind fun x=>(itemsP x).bind fun l =>
   forN (fun ρ v=>.ok (putS ρ i (.val v))) (fun ρ=>evSs F G W ts ρ) l ρ:=rfl
theorem xforT {is:List Nat}:evS F G W (.forT is e ts) ρ=(evE F G e ρ).bind fun x=>(itemsP x).bind fun l =>
   forN (fun ρ v=>(unpackP is.length v).bind fun vs=>.ok (putsS ρ is vs)) (fun ρ=>evSs F G W ts ρ) l ρ:=rfl
theorem xraise:evS F G W .raise_ ρ=.exc:=rfl
theorem xtry {j:Nat}:evS F G W (.try_ i e j v) ρ=match evE F G e ρ with
  | .ok x=>.ok (.next,putS ρ i (.val x))
  | .exc=>.ok (.next,putS ρ j (.val v))
  | .stuck=>.stuck:=rfl
theorem xbrk:evS F G W .brk ρ=.ok (.brk,ρ):=rfl
theorem xnil:evSs F G W [] ρ=.ok (.next,ρ):=rfl
theorem xSs:evSs F G W (s::r) ρ=match evS F G W s ρ with
  | .ok (.next,ρ')=>evSs F G W r ρ'
  | .ok (f,ρ')=>.ok (f,ρ')
  | .exc=>.exc
  | .stuck=>.stuck:=rfl
theorem xB:evB F G c ρ=(evE F G c ρ).bind truP:=rfl
end
theorem len_c {α:Type} (a:α) (l:List α):(a::l).length=l.length+1:=rfl
theorem len_n {α:Type}:([]:List α).length=0:=rfl
section
variable {F:Nat→List PV→Res PV} {G:Nat→Res PV} {W:Nat} {s:CS} {r:List CS} {ρ ρ':List Slot}
theorem run_next (h:evS F G W s ρ=.ok (.next,ρ')):evSs F G W (s::r) ρ=evSs F G W r ρ':=by rw [xSs,h]
theorem run_ret {v:PV} (h:evS F G W s ρ=.ok (.ret v,ρ')):evSs F G W (s::r) ρ=.ok (.ret v,ρ'):=by rw [xSs,h]
theorem run_exc (h:evS F G W s ρ=.exc):evSs F G W (s::r) ρ=.exc:=by rw [xSs,h]
theorem run_stuck (h:evS F G W s ρ=.stuck):evSs F G W (s::r) ρ=.stuck:=by rw [xSs,h]
theorem run_nil:evSs F G W [] ρ=.ok (.next,ρ):=rfl
theorem if_yes {c:CE} {a b:List CS} (h:evB F G c ρ=.ok true):evS F G W (.if_ c a b) ρ=evSs F G W a ρ:=by rw [xif,h]; rfl
theorem if_no {c:CE} {a b:List CS} (h:evB F G c ρ=.ok false):evS F G W (.if_ c a b) ρ=evSs F G W b ρ:=by rw [xif,h]; rfl
theorem to_assign {i:Nat} {e:CE} {v:PV} (h:evE F G e ρ=.ok v):evS F G W (.assign i e) ρ=.ok (.next,putS ρ i (.val v)):=by rw [xset,h]; rfl
theorem sx_stuck {i:Nat} {e:CE} (h:evE F G e ρ=.stuck):evS F G W (.assign i e) ρ=.stuck:=by rw [xset,h]; rfl
theorem sx_exc {i:Nat} {e:CE} (h:evE F G e ρ=.exc):evS F G W (.assign i e) ρ=.exc:=by rw [xset,h]; rfl
end
theorem memD_ints (n:Nat) (x:Int):∀ l:List Int,memD n (.int x) (l.map PV.int)=some (decide (x∈l))
 | []=>rfl
 | a::r=>by
  rw [List.map_cons,memD,memD_ints n x r]
  have:eqD n (.int a) (.int x)=some (a == x):=by cases n <;> rfl
  rw [this]
  simp only
  congr 1
  rw [Bool.eq_iff_iff,Bool.or_eq_true,beq_iff_eq,decide_eq_true_iff,decide_eq_true_iff,List.mem_cons]
  exact ⟨fun h=>h.imp Eq.symm id,fun h=>h.imp Eq.symm id⟩
theorem for_all {set:List Slot→PV→Res (List Slot)} {b:List Slot→Res (Fl × List Slot)} (mk:Slot→List Slot) (p:Int→Bool) (out:PV) (hs:∀ s x,set (mk s) (.int x)=.ok (mk (.val (.int x))))
  (hb:∀ x,b (mk (.val (.int x)))=if p x then .ok (.next,mk (.val (.int x))) else .ok (.ret out,mk (.val (.int x)))) :
  ∀ (l:List Int) (s:Slot),∃ s',forN set b (l.map PV.int) (mk s)=if l.all p then .ok (.next,mk s') else .ok (.ret out,mk s')
 | [],s=>⟨s,by simp [f_nil]⟩
 | x::r,s=>by
  obtain ⟨s',h⟩:=for_all mk p out hs hb r (.val (.int x))
  rw [List.map_cons,f_cons,hs,b_ok,hb]
  cases hx:p x
  ·exact ⟨.val (.int x),by simp [hx]⟩
  ·exact ⟨s',by simp only [if_true,h,List.all_cons,hx,Bool.true_and]⟩
theorem for_fold {α:Type} {set:List Slot→PV→Res (List Slot)} {b:List Slot→Res (Fl × List Slot)} (mk:α→Slot→List Slot) (f:α→Int→α) (P:α→Prop) (Px:Int→Prop) (hs:∀ a s x,set (mk a s) (.int x)=.ok (mk a (.val (.int x))))
  (hb:∀ a x,P a→Px x→b (mk a (.val (.int x)))=.ok (.next,mk (f a x) (.val (.int x)))∧P (f a x)) :
  ∀ (l:List Int) (a:α) (s:Slot),P a→(∀ x∈l,Px x)→∃ s',forN set b (l.map PV.int) (mk a s)=.ok (.next,mk (l.foldl f a) s')∧P (l.foldl f a)
 | [],a,s,hP,_=>⟨s,by simp [f_nil],hP⟩
 | x::r,a,s,hP,hx=>by
  obtain ⟨h1,h2⟩:=hb a x hP (hx x (by simp))
  obtain ⟨s',h,h3⟩:=for_fold mk f P Px hs hb r (f a x) (.val (.int x)) h2 (fun y hy=>hx y (by simp [hy]))
  rw [List.map_cons,f_cons,hs,b_ok,h1]
  exact ⟨s',h,h3⟩
theorem drop_cons {l:List Int} {q:Nat} {c:Int} {t:List Int} (h:l.drop q=c::t):l[q]?=some c∧l.drop (q+1)=t∧q<l.length:=by
 have h1:q<l.length:=by
  rcases Nat.lt_or_ge q l.length with h' | h'
  ·exact h'
  ·rw [List.drop_eq_nil_of_le h'] at h; cases h
 rw [List.drop_eq_getElem_cons h1] at h
 injection h with h2 h3
 exact ⟨by rw [List.getElem?_eq_getElem h1,h2],h3,h1⟩
theorem drop_nil {l:List Int} {q:Nat} (h:l.drop q=[]):l.length≤q:=by
 rcases Nat.lt_or_ge q l.length with h' | h'
 ·rw [List.drop_eq_getElem_cons h'] at h; cases h
 ·exact h'
section
variable {T:Nat→Option CF} {G:Nat→Res PV} {W:Nat} (L:Lib T G)
include L
theorem d_need (d:Nat) (b:Bool):den T G W (d+1) 0 [.bool b]=if b then .ok .none else .exc:=by
 rw [den_code L.t0 rfl]
 cases b <;> rfl
theorem d_is_digit (d:Nat) (x:Int):den T G W (d+1) 1 [.int x]=.ok (.bool (isDig x)):=by
 rw [den_code L.t1 rfl]
 show outS (evSs _ _ _ cf_is_digit [.val (.int x)])=_
 simp only [cf_is_digit,isDig,xnil,xSs,xfrz,xset,xown,xsetT,xaug,xapp,xexpr,xret,xif,xwhile,xfor,xforT,xraise,xtry,xbrk,xB,xlit,xneg,xvar,xglob,xsf,xtup,xlst,xdict,xbin,xcmp,xcmp2,xand,xor,xnot,xite,xidx,xslc,xcall,xlen,xisin,xisin1,xmkB,xtyp,xjoin,xcomp,xE,xE1,xO,xO1,xA1,xA2,xR1,xR2,xg0,xg1,xp0,xp1,b_ok,b_exc,b_stuck,c_eqi,c_nei,c_lti,c_lei,c_gti,c_gei,c_eqb,c_neb,c_eqs,c_nes,c_is,c_isNot,c_in,c_notIn,c_notInB,t_none,t_bool,t_int,o_addi,o_subi,o_modi,u_addi,l_b,l_t,l_l,i_t0,i_t1,e_none,s_b,r_ret,r_next,r_exc,r_stuck,it_b,it_t,it_l,f_nil,if_true,if_false,Bool.false_eq_true,Bool.true_eq_false,Bool.not_true,Bool.not_false,reduceIte,isNone,len_c,len_n]
 by_cases h:(48:Int)≤x <;> simp [h,b_ok,outS]
theorem d_is_letter (d:Nat) (x:Int):den T G W (d+1) 2 [.int x]=.ok (.bool (isLet x)):=by
 rw [den_code L.t2 rfl]
 show outS (evSs _ _ _ cf_is_letter [.val (.int x)])=_
 simp only [cf_is_letter,isLet,xnil,xSs,xfrz,xset,xown,xsetT,xaug,xapp,xexpr,xret,xif,xwhile,xfor,xforT,xraise,xtry,xbrk,xB,xlit,xneg,xvar,xglob,xsf,xtup,xlst,xdict,xbin,xcmp,xcmp2,xand,xor,xnot,xite,xidx,xslc,xcall,xlen,xisin,xisin1,xmkB,xtyp,xjoin,xcomp,xE,xE1,xO,xO1,xA1,xA2,xR1,xR2,xg0,xg1,xp0,xp1,b_ok,b_exc,b_stuck,c_eqi,c_nei,c_lti,c_lei,c_gti,c_gei,c_eqb,c_neb,c_eqs,c_nes,c_is,c_isNot,c_in,c_notIn,c_notInB,t_none,t_bool,t_int,o_addi,o_subi,o_modi,u_addi,l_b,l_t,l_l,i_t0,i_t1,e_none,s_b,r_ret,r_next,r_exc,r_stuck,it_b,it_t,it_l,f_nil,if_true,if_false,Bool.false_eq_true,Bool.true_eq_false,Bool.not_true,Bool.not_false,reduceIte,isNone,len_c,len_n]
 by_cases h:(65:Int)≤x <;> by_cases h2:x≤90 <;> by_cases h3:(97:Int)≤x <;> simp [h,h2,h3,xnil,xSs,xfrz,xset,xown,xsetT,xaug,xapp,xexpr,xret,xif,xwhile,xfor,xforT,xraise,xtry,xbrk,xB,xlit,xneg,xvar,xglob,xsf,xtup,xlst,xdict,xbin,xcmp,xcmp2,xand,xor,xnot,xite,xidx,xslc,xcall,xlen,xisin,xisin1,xmkB,xtyp,xjoin,xcomp,xE,xE1,xO,xO1,xA1,xA2,xR1,xR2,xg0,xg1,xp0,xp1,b_ok,b_exc,b_stuck,c_eqi,c_nei,c_lti,c_lei,c_gti,c_gei,c_eqb,c_neb,c_eqs,c_nes,c_is,c_isNot,c_in,c_notIn,c_notInB,t_none,t_bool,t_int,o_addi,o_subi,o_modi,u_addi,l_b,l_t,l_l,i_t0,i_t1,e_none,s_b,r_ret,r_next,r_exc,r_stuck,it_b,it_t,it_l,f_nil,if_true,if_false,Bool.false_eq_true,Bool.true_eq_false,Bool.not_true,Bool.not_false,reduceIte,isNone,len_c,len_n]
theorem d_is_tag_char (d:Nat) (x:Int):den T G W (d+2) 3 [.int x]=.ok (.bool (isTagC x)):=by
 rw [den_code L.t3 rfl]
 show outS (evSs _ _ _ cf_is_tag_char [.val (.int x)])=_
 simp only [cf_is_tag_char,isTagC,d_is_letter L d,d_is_digit L d,xnil,xSs,xfrz,xset,xown,xsetT,xaug,xapp,xexpr,xret,xif,xwhile,xfor,xforT,xraise,xtry,xbrk,xB,xlit,xneg,xvar,xglob,xsf,xtup,xlst,xdict,xbin,xcmp,xcmp2,xand,xor,xnot,xite,xidx,xslc,xcall,xlen,xisin,xisin1,xmkB,xtyp,xjoin,xcomp,xE,xE1,xO,xO1,xA1,xA2,xR1,xR2,xg0,xg1,xp0,xp1,b_ok,b_exc,b_stuck,c_eqi,c_nei,c_lti,c_lei,c_gti,c_gei,c_eqb,c_neb,c_eqs,c_nes,c_is,c_isNot,c_in,c_notIn,c_notInB,t_none,t_bool,t_int,o_addi,o_subi,o_modi,u_addi,l_b,l_t,l_l,i_t0,i_t1,e_none,s_b,r_ret,r_next,r_exc,r_stuck,it_b,it_t,it_l,f_nil,if_true,if_false,Bool.false_eq_true,Bool.true_eq_false,Bool.not_true,Bool.not_false,reduceIte,isNone,len_c,len_n]
 cases h1:isLet x <;> cases h2:isDig x <;> simp [h1,h2,d_is_digit L d,xnil,xSs,xfrz,xset,xown,xsetT,xaug,xapp,xexpr,xret,xif,xwhile,xfor,xforT,xraise,xtry,xbrk,xB,xlit,xneg,xvar,xglob,xsf,xtup,xlst,xdict,xbin,xcmp,xcmp2,xand,xor,xnot,xite,xidx,xslc,xcall,xlen,xisin,xisin1,xmkB,xtyp,xjoin,xcomp,xE,xE1,xO,xO1,xA1,xA2,xR1,xR2,xg0,xg1,xp0,xp1,b_ok,b_exc,b_stuck,c_eqi,c_nei,c_lti,c_lei,c_gti,c_gei,c_eqb,c_neb,c_eqs,c_nes,c_is,c_isNot,c_in,c_notIn,c_notInB,t_none,t_bool,t_int,o_addi,o_subi,o_modi,u_addi,l_b,l_t,l_l,i_t0,i_t1,e_none,s_b,r_ret,r_next,r_exc,r_stuck,it_b,it_t,it_l,f_nil,if_true,if_false,Bool.false_eq_true,Bool.true_eq_false,Bool.not_true,Bool.not_false,reduceIte,isNone,len_c,len_n]
theorem d_is_atom_char (d:Nat) (x:Int):den T G W (d+1) 4 [.int x]=.ok (.bool (isAtomC x)):=by
 rw [den_code L.t4 rfl]
 show outS (evSs _ _ _ cf_is_atom_char [.val (.int x)])=_
 simp only [cf_is_atom_char,isAtomC,xnil,xSs,xfrz,xset,xown,xsetT,xaug,xapp,xexpr,xret,xif,xwhile,xfor,xforT,xraise,xtry,xbrk,xB,xlit,xneg,xvar,xglob,xsf,xtup,xlst,xdict,xbin,xcmp,xcmp2,xand,xor,xnot,xite,xidx,xslc,xcall,xlen,xisin,xisin1,xmkB,xtyp,xjoin,xcomp,xE,xE1,xO,xO1,xA1,xA2,xR1,xR2,xg0,xg1,xp0,xp1,b_ok,b_exc,b_stuck,c_eqi,c_nei,c_lti,c_lei,c_gti,c_gei,c_eqb,c_neb,c_eqs,c_nes,c_is,c_isNot,c_in,c_notIn,c_notInB,t_none,t_bool,t_int,o_addi,o_subi,o_modi,u_addi,l_b,l_t,l_l,i_t0,i_t1,e_none,s_b,r_ret,r_next,r_exc,r_stuck,it_b,it_t,it_l,f_nil,if_true,if_false,Bool.false_eq_true,Bool.true_eq_false,Bool.not_true,Bool.not_false,reduceIte,isNone,len_c,len_n]
 by_cases h:x<33
 ·simp [h,xnil,xSs,xfrz,xset,xown,xsetT,xaug,xapp,xexpr,xret,xif,xwhile,xfor,xforT,xraise,xtry,xbrk,xB,xlit,xneg,xvar,xglob,xsf,xtup,xlst,xdict,xbin,xcmp,xcmp2,xand,xor,xnot,xite,xidx,xslc,xcall,xlen,xisin,xisin1,xmkB,xtyp,xjoin,xcomp,xE,xE1,xO,xO1,xA1,xA2,xR1,xR2,xg0,xg1,xp0,xp1,b_ok,b_exc,b_stuck,c_eqi,c_nei,c_lti,c_lei,c_gti,c_gei,c_eqb,c_neb,c_eqs,c_nes,c_is,c_isNot,c_in,c_notIn,c_notInB,t_none,t_bool,t_int,o_addi,o_subi,o_modi,u_addi,l_b,l_t,l_l,i_t0,i_t1,e_none,s_b,r_ret,r_next,r_exc,r_stuck,it_b,it_t,it_l,f_nil,if_true,if_false,Bool.false_eq_true,Bool.true_eq_false,Bool.not_true,Bool.not_false,reduceIte,isNone,len_c,len_n]
 ·by_cases h2:126<x
  ·simp [h,h2,xnil,xSs,xfrz,xset,xown,xsetT,xaug,xapp,xexpr,xret,xif,xwhile,xfor,xforT,xraise,xtry,xbrk,xB,xlit,xneg,xvar,xglob,xsf,xtup,xlst,xdict,xbin,xcmp,xcmp2,xand,xor,xnot,xite,xidx,xslc,xcall,xlen,xisin,xisin1,xmkB,xtyp,xjoin,xcomp,xE,xE1,xO,xO1,xA1,xA2,xR1,xR2,xg0,xg1,xp0,xp1,b_ok,b_exc,b_stuck,c_eqi,c_nei,c_lti,c_lei,c_gti,c_gei,c_eqb,c_neb,c_eqs,c_nes,c_is,c_isNot,c_in,c_notIn,c_notInB,t_none,t_bool,t_int,o_addi,o_subi,o_modi,u_addi,l_b,l_t,l_l,i_t0,i_t1,e_none,s_b,r_ret,r_next,r_exc,r_stuck,it_b,it_t,it_l,f_nil,if_true,if_false,Bool.false_eq_true,Bool.true_eq_false,Bool.not_true,Bool.not_false,reduceIte,isNone,len_c,len_n]
  ·simp only [h,h2,decide_false,xnil,xSs,xfrz,xset,xown,xsetT,xaug,xapp,xexpr,xret,xif,xwhile,xfor,xforT,xraise,xtry,xbrk,xB,xlit,xneg,xvar,xglob,xsf,xtup,xlst,xdict,xbin,xcmp,xcmp2,xand,xor,xnot,xite,xidx,xslc,xcall,xlen,xisin,xisin1,xmkB,xtyp,xjoin,xcomp,xE,xE1,xO,xO1,xA1,xA2,xR1,xR2,xg0,xg1,xp0,xp1,b_ok,b_exc,b_stuck,c_eqi,c_nei,c_lti,c_lei,c_gti,c_gei,c_eqb,c_neb,c_eqs,c_nes,c_is,c_isNot,c_in,c_notIn,c_notInB,t_none,t_bool,t_int,o_addi,o_subi,o_modi,u_addi,l_b,l_t,l_l,i_t0,i_t1,e_none,s_b,r_ret,r_next,r_exc,r_stuck,it_b,it_t,it_l,f_nil,if_true,if_false,Bool.false_eq_true,Bool.true_eq_false,Bool.not_true,Bool.not_false,reduceIte,isNone,len_c,len_n,lim,Bool.or_self,Bool.true_and,Nat.reduceAdd,Nat.reduceLeDiff,if_true]
   have e:=memD_ints 12 x [34,37,40,41,42,92,93,123]
   simp only [List.map_cons,List.map_nil] at e
   rw [e]
   rfl
theorem d_all_digits (d:Nat) (l:List Int):den T G W (d+2) 5 [.bytes l]=.ok (.bool (allDig l)):=by
 rw [den_code L.t5 rfl]
 show outS (evSs _ _ _ cf_all_digits [.val (.bytes l),.unset])=_
 rw [cf_all_digits]
 obtain ⟨s',h⟩:=for_all (set:=fun ρ v=>.ok (putS ρ 1 (.val v))) (b:=fun ρ=>evSs (den T G W (d+1)) G W [.if_ (.not_ (.call 1 [(.var 1)])) [.ret (.lit (.bool false))] []] ρ) (fun s=>[.val (.bytes l),s]) isDig (.bool false)
  (fun s x=>rfl) (fun x=>by
   simp only [d_is_digit L d,xnil,xSs,xfrz,xset,xown,xsetT,xaug,xapp,xexpr,xret,xif,xwhile,xfor,xforT,xraise,xtry,xbrk,xB,xlit,xneg,xvar,xglob,xsf,xtup,xlst,xdict,xbin,xcmp,xcmp2,xand,xor,xnot,xite,xidx,xslc,xcall,xlen,xisin,xisin1,xmkB,xtyp,xjoin,xcomp,xE,xE1,xO,xO1,xA1,xA2,xR1,xR2,xg0,xg1,xp0,xp1,b_ok,b_exc,b_stuck,c_eqi,c_nei,c_lti,c_lei,c_gti,c_gei,c_eqb,c_neb,c_eqs,c_nes,c_is,c_isNot,c_in,c_notIn,c_notInB,t_none,t_bool,t_int,o_addi,o_subi,o_modi,u_addi,l_b,l_t,l_l,i_t0,i_t1,e_none,s_b,r_ret,r_next,r_exc,r_stuck,it_b,it_t,it_l,f_nil,if_true,if_false,Bool.false_eq_true,Bool.true_eq_false,Bool.not_true,Bool.not_false,reduceIte,isNone,len_c,len_n]
   cases isDig x <;> simp [xnil,xSs,xfrz,xset,xown,xsetT,xaug,xapp,xexpr,xret,xif,xwhile,xfor,xforT,xraise,xtry,xbrk,xB,xlit,xneg,xvar,xglob,xsf,xtup,xlst,xdict,xbin,xcmp,xcmp2,xand,xor,xnot,xite,xidx,xslc,xcall,xlen,xisin,xisin1,xmkB,xtyp,xjoin,xcomp,xE,xE1,xO,xO1,xA1,xA2,xR1,xR2,xg0,xg1,xp0,xp1,b_ok,b_exc,b_stuck,c_eqi,c_nei,c_lti,c_lei,c_gti,c_gei,c_eqb,c_neb,c_eqs,c_nes,c_is,c_isNot,c_in,c_notIn,c_notInB,t_none,t_bool,t_int,o_addi,o_subi,o_modi,u_addi,l_b,l_t,l_l,i_t0,i_t1,e_none,s_b,r_ret,r_next,r_exc,r_stuck,it_b,it_t,it_l,f_nil,if_true,if_false,Bool.false_eq_true,Bool.true_eq_false,Bool.not_true,Bool.not_false,reduceIte,isNone,len_c,len_n]) l .unset
 cases l with
 | nil=>rfl
 | cons a r =>
  have e:allDig (a::r)=(a::r).all isDig:=by simp [allDig]
  have e0:evB (den T G W (d+1)) G (.cmp .eq (.len (.var 0)) (.lit (.int 0))) [.val (.bytes (a::r)),.unset]=.ok false:=by
   simp only [xnil,xSs,xfrz,xset,xown,xsetT,xaug,xapp,xexpr,xret,xif,xwhile,xfor,xforT,xraise,xtry,xbrk,xB,xlit,xneg,xvar,xglob,xsf,xtup,xlst,xdict,xbin,xcmp,xcmp2,xand,xor,xnot,xite,xidx,xslc,xcall,xlen,xisin,xisin1,xmkB,xtyp,xjoin,xcomp,xE,xE1,xO,xO1,xA1,xA2,xR1,xR2,xg0,xg1,xp0,xp1,b_ok,b_exc,b_stuck,c_eqi,c_nei,c_lti,c_lei,c_gti,c_gei,c_eqb,c_neb,c_eqs,c_nes,c_is,c_isNot,c_in,c_notIn,c_notInB,t_none,t_bool,t_int,o_addi,o_subi,o_modi,u_addi,l_b,l_t,l_l,i_t0,i_t1,e_none,s_b,r_ret,r_next,r_exc,r_stuck,it_b,it_t,it_l,f_nil,if_true,if_false,Bool.false_eq_true,Bool.true_eq_false,Bool.not_true,Bool.not_false,reduceIte,isNone,len_c,len_n]
   have:(((r.length+1:Nat):Int) == 0)=false:=by rw [beq_eq_false_iff_ne]; lia
   rw [this]
  rw [run_next (if_no e0)]
  rw [e]
  cases ha:(a::r).all isDig <;> rw [ha] at h
  ·rw [run_ret (v:=.bool false) (ρ':=[.val (.bytes (a::r)),s']) (by exact h)]
   rfl
  ·rw [run_next (ρ':=[.val (.bytes (a::r)),s']) (by exact h)]
   rfl
theorem d_digits_value (d:Nat) (l:List Int) (hl:∀ x∈l,isDig x=true):den T G W (d+1) 6 [.bytes l]=.ok (.int (digVal l)):=by
 rw [den_code L.t6 rfl]
 show outS (evSs _ _ _ cf_digits_value [.val (.bytes l),.unset,.unset])=_
 rw [cf_digits_value,run_next (to_assign (v:=.int 0) rfl)]
 obtain ⟨s',h,_⟩:=for_fold (set:=fun ρ v=>.ok (putS ρ 2 (.val v))) (b:=fun ρ=>evSs (den T G W d) G W [.assign 1 (.bin .add (.bin .mul (.var 1) (.lit (.int 10))) (.bin .sub (.var 2) (.lit (.int 48)))),.if_ (.cmp .ge (.var 1) (.glob 0)) [.assign 1 (.glob 0)] []] ρ)
  (fun n s=>[.val (.bytes l),.val (.int n),s]) (fun n x=>clamp (n * 10+(x - 48))) (fun n=>0≤n∧n≤4294967296) (fun x=>isDig x=true) (fun n s x=>rfl) (fun n x hn hx=>by
   simp only [isDig,Bool.and_eq_true,decide_eq_true_iff] at hx
   constructor
   ·have e1:n.natAbs≤4294967296∧Int.natAbs 10≤4294967296:=⟨by lia,by decide⟩
    simp only [xnil,xSs,xfrz,xset,xown,xsetT,xaug,xapp,xexpr,xret,xif,xwhile,xfor,xforT,xraise,xtry,xbrk,xB,xlit,xneg,xvar,xglob,xsf,xtup,xlst,xdict,xbin,xcmp,xcmp2,xand,xor,xnot,xite,xidx,xslc,xcall,xlen,xisin,xisin1,xmkB,xtyp,xjoin,xcomp,xE,xE1,xO,xO1,xA1,xA2,xR1,xR2,xg0,xg1,xp0,xp1,b_ok,b_exc,b_stuck,c_eqi,c_nei,c_lti,c_lei,c_gti,c_gei,c_eqb,c_neb,c_eqs,c_nes,c_is,c_isNot,c_in,c_notIn,c_notInB,t_none,t_bool,t_int,o_addi,o_subi,o_modi,u_addi,l_b,l_t,l_l,i_t0,i_t1,e_none,s_b,r_ret,r_next,r_exc,r_stuck,it_b,it_t,it_l,f_nil,if_true,if_false,Bool.false_eq_true,Bool.true_eq_false,Bool.not_true,Bool.not_false,reduceIte,isNone,len_c,len_n,o_muli,e1,and_self,L.g0,clamp]
    by_cases h:(4294967296:Int)≤n * 10+(x - 48) <;> simp [h,xnil,xSs,xfrz,xset,xown,xsetT,xaug,xapp,xexpr,xret,xif,xwhile,xfor,xforT,xraise,xtry,xbrk,xB,xlit,xneg,xvar,xglob,xsf,xtup,xlst,xdict,xbin,xcmp,xcmp2,xand,xor,xnot,xite,xidx,xslc,xcall,xlen,xisin,xisin1,xmkB,xtyp,xjoin,xcomp,xE,xE1,xO,xO1,xA1,xA2,xR1,xR2,xg0,xg1,xp0,xp1,b_ok,b_exc,b_stuck,c_eqi,c_nei,c_lti,c_lei,c_gti,c_gei,c_eqb,c_neb,c_eqs,c_nes,c_is,c_isNot,c_in,c_notIn,c_notInB,t_none,t_bool,t_int,o_addi,o_subi,o_modi,u_addi,l_b,l_t,l_l,i_t0,i_t1,e_none,s_b,r_ret,r_next,r_exc,r_stuck,it_b,it_t,it_l,f_nil,if_true,if_false,Bool.false_eq_true,Bool.true_eq_false,Bool.not_true,Bool.not_false,reduceIte,isNone,len_c,len_n]
   ·unfold clamp
    split <;> lia) l 0 .unset (by lia) hl
 rw [run_next (ρ':=_) (by simp only [xfrz,xset,xown,xsetT,xaug,xapp,xexpr,xret,xif,xwhile,xfor,xforT,xraise,xtry,xbrk,xlit,xneg,xvar,xglob,xsf,xtup,xlst,xdict,xbin,xcmp,xcmp2,xand,xor,xnot,xite,xidx,xslc,xcall,xlen,xisin,xisin1,xmkB,xtyp,xjoin,xcomp,xp0,xp1,xg0,xg1,b_ok,it_b]; exact h)]
 rfl
theorem d_upper (d:Nat) (l:List Int) (hl:∀ x∈l,0≤x∧x<256):den T G W (d+1) 8 [.bytes l]=.ok (.bytes (up l)):=by
 rw [den_code L.t8 rfl]
 show outS (evSs _ _ _ cf_upper [.val (.bytes l)])=_
 have key:∀ m:List Int,mapR (fun v=>evE (den T G W d) G (.ite (.cmp2 .le .le (.lit (.int 97)) (.var 0) (.lit (.int 122))) (.bin .sub (.var 0) (.lit (.int 32))) (.var 0)) [.val v]) (m.map PV.int)=.ok ((up m).map PV.int):=by
  intro m
  induction m with
  | nil=>rfl
  | cons a r ih =>
   rw [List.map_cons,mapR,ih]
   have:evE (den T G W d) G (.ite (.cmp2 .le .le (.lit (.int 97)) (.var 0) (.lit (.int 122))) (.bin .sub (.var 0) (.lit (.int 32))) (.var 0)) [.val (.int a)]=.ok (.int (upC a)):=by
    simp only [xnil,xSs,xfrz,xset,xown,xsetT,xaug,xapp,xexpr,xret,xif,xwhile,xfor,xforT,xraise,xtry,xbrk,xB,xlit,xneg,xvar,xglob,xsf,xtup,xlst,xdict,xbin,xcmp,xcmp2,xand,xor,xnot,xite,xidx,xslc,xcall,xlen,xisin,xisin1,xmkB,xtyp,xjoin,xcomp,xE,xE1,xO,xO1,xA1,xA2,xR1,xR2,xg0,xg1,xp0,xp1,b_ok,b_exc,b_stuck,c_eqi,c_nei,c_lti,c_lei,c_gti,c_gei,c_eqb,c_neb,c_eqs,c_nes,c_is,c_isNot,c_in,c_notIn,c_notInB,t_none,t_bool,t_int,o_addi,o_subi,o_modi,u_addi,l_b,l_t,l_l,i_t0,i_t1,e_none,s_b,r_ret,r_next,r_exc,r_stuck,it_b,it_t,it_l,f_nil,if_true,if_false,Bool.false_eq_true,Bool.true_eq_false,Bool.not_true,Bool.not_false,reduceIte,isNone,len_c,len_n,upC]
    by_cases h1:(97:Int)≤a <;> by_cases h2:a≤122 <;> simp [h1,h2,xnil,xSs,xfrz,xset,xown,xsetT,xaug,xapp,xexpr,xret,xif,xwhile,xfor,xforT,xraise,xtry,xbrk,xB,xlit,xneg,xvar,xglob,xsf,xtup,xlst,xdict,xbin,xcmp,xcmp2,xand,xor,xnot,xite,xidx,xslc,xcall,xlen,xisin,xisin1,xmkB,xtyp,xjoin,xcomp,xE,xE1,xO,xO1,xA1,xA2,xR1,xR2,xg0,xg1,xp0,xp1,b_ok,b_exc,b_stuck,c_eqi,c_nei,c_lti,c_lei,c_gti,c_gei,c_eqb,c_neb,c_eqs,c_nes,c_is,c_isNot,c_in,c_notIn,c_notInB,t_none,t_bool,t_int,o_addi,o_subi,o_modi,u_addi,l_b,l_t,l_l,i_t0,i_t1,e_none,s_b,r_ret,r_next,r_exc,r_stuck,it_b,it_t,it_l,f_nil,if_true,if_false,Bool.false_eq_true,Bool.true_eq_false,Bool.not_true,Bool.not_false,reduceIte,isNone,len_c,len_n]
   rw [this]; rfl
 have hi:∀ m:List Int,intsOf (m.map PV.int)=some m:=by
  intro m
  induction m with
  | nil=>rfl
  | cons a r ih=>rw [List.map_cons,intsOf,ih]; rfl
 have hr:∀ n∈up l,0≤n∧n<256:=by
  intro n hn
  unfold up at hn
  obtain ⟨x,hx,rfl⟩:=List.mem_map.1 hn
  have:=hl x hx
  unfold upC
  split <;> lia
 rw [cf_upper,xSs,xret,xmkB,xcomp,xvar]
 simp only [xg0,xg1,b_ok,it_b,key,bytesP,hi,hr,implies_true,if_true,and_self]
 rw [if_pos hr]
 rfl
end
end Mine
namespace Mine
theorem scanN_len (p:Int→Bool):∀ (n:Nat) (x r:List Int),scanN p n x=some r→∃ u,x=u++r
 | 0,_,_,h=>by cases h
 | n+1,[],r,h=>by simp [scanN] at h; exact ⟨[],by simp [h]⟩
 | n+1,c::t,r,h=>by
  rw [scanN] at h
  split at h
  ·obtain ⟨u,e⟩:=scanN_len p n t r h
   exact ⟨c::u,by rw [e]; rfl⟩
  ·cases h; exact ⟨[],rfl⟩
theorem cut_two {l:List Int} {q:Nat} (k:Nat):cutL l (some (q:Int)) (some ((q:Int)+(k:Int)))=(l.drop q).take k:=by
 unfold cutL
 simp only
 have e1:((q:Int)+(k:Int)).toNat=q+k:=by lia
 rw [e1,Int.toNat_natCast,List.drop_take]
 congr 1
 lia
section
variable {T:Nat→Option CF} {G:Nat→Res PV} {W:Nat} (L:Lib T G)
include L
theorem need_y {d:Nat} {c:CE} {ρ:List Slot} (h:evE (den T G W (d+1)) G c ρ=.ok (.bool true)):evS (den T G W (d+1)) G W (.expr (.call 0 [c])) ρ=.ok (.next,ρ):=by
 rw [xexpr,xcall,xE1,h,xE]
 simp only [b_ok,d_need L,if_true,isNone]
theorem need_n {d:Nat} {c:CE} {ρ:List Slot} (h:evE (den T G W (d+1)) G c ρ=.ok (.bool false)):evS (den T G W (d+1)) G W (.expr (.call 0 [c])) ρ=.exc:=by
 rw [xexpr,xcall,xE1,h,xE]
 simp only [b_ok,d_need L,Bool.false_eq_true,if_false,b_exc]
omit L in
theorem ev_cmp {F:Nat→List PV→Res PV} {o:COp} {a b:CE} {ρ:List Slot} {x y:PV} {r:Bool} (h1:evE F G a ρ=.ok x) (h2:evE F G b ρ=.ok y) (h3:cmpP o x y=.ok r):evE F G (.cmp o a b) ρ=.ok (.bool r):=by
 show (evE F G a ρ).bind _=_
 rw [h1]
 show (evE F G b ρ).bind _=_
 rw [h2]
 show (cmpP o x y).bind _=_
 rw [h3]; rfl
omit L in
theorem b_of {F:Nat→List PV→Res PV} {c:CE} {ρ:List Slot} {b:Bool} (h:evE F G c ρ=.ok (.bool b)):evB F G c ρ=.ok b:=by
 unfold evB; rw [h]; rfl
omit L in
theorem b_yes {F:Nat→List PV→Res PV} {c:CE} {ρ:List Slot} {P:Prop} [Decidable P] (h:evE F G c ρ=.ok (.bool (decide P))) (hp:P):evB F G c ρ=.ok true:=by
 unfold evB; rw [h,decide_eq_true hp]; rfl
omit L in
theorem b_no {F:Nat→List PV→Res PV} {c:CE} {ρ:List Slot} {P:Prop} [Decidable P] (h:evE F G c ρ=.ok (.bool (decide P))) (hp:¬ P):evB F G c ρ=.ok false:=by
 unfold evB; rw [h,decide_eq_false hp]; rfl
noncomputable def ofRun (l:List Int):PR (List Int)→Res PV
 | .none=>.ok .none
 | .err=>.exc
 | .stuck=>.stuck
 | .ok v r=>.ok (.tuple [.bytes v,.int ((l.length:Int) - (r.length:Int))])
noncomputable def ofCrlf (l:List Int):PR Unit→Res PV
 | .none=>.ok .none
 | .err=>.exc
 | .stuck=>.stuck
 | .ok _ r=>.ok (.int ((l.length:Int) - (r.length:Int)))
end
noncomputable def thn (x:Res (Fl × List Slot)) (kb kn:List Slot→Res PV):Res PV:=match x with
 | .ok (.next,ρ)=>kn ρ
 | .ok (.brk,ρ)=>kb ρ
 | .ok (.ret v,_)=>.ok v
 | .exc=>.exc
 | .stuck=>.stuck
noncomputable def run (F:Nat→List PV→Res PV) (G:Nat→Res PV) (W:Nat) (ss:List CS) (ρ:List Slot) (kb kn:List Slot→Res PV):Res PV:=thn (evSs F G W ss ρ) kb kn
noncomputable def wh (F:Nat→List PV→Res PV) (G:Nat→Res PV) (W:Nat) (c:CE) (b:List CS) (n:Nat) (ρ:List Slot) (kb k:List Slot→Res PV):Res PV:=thn (whileN (fun ρ=>evB F G c ρ) (fun ρ=>evSs F G W b ρ) n ρ) kb k
noncomputable def kN (_:List Slot):Res PV:=.ok .none
noncomputable def kS (_:List Slot):Res PV:=.stuck
structure Out0 {α:Type} (O:PR α→Res PV):Prop where
 n:O .none=.ok .none
 e:O .err=.exc
 s:O .stuck=.stuck
structure Out {α:Type} (O:PR α→Res PV) (v:α→List Int→PV):Prop extends Out0 O where
 o:∀ a r,O (.ok a r)=.ok (v a r)
 x:∀ a r,isNone (v a r)=false
theorem out_pr (l:List Int):Out (ofPR l) (fun v r=>.tuple [v,.int ((l.length:Int) - (r.length:Int))]):=⟨⟨rfl,rfl,rfl⟩,fun _ _=>rfl,fun _ _=>rfl⟩
theorem out_run (l:List Int):Out (ofRun l) (fun v r=>.tuple [.bytes v,.int ((l.length:Int) - (r.length:Int))]):=⟨⟨rfl,rfl,rfl⟩,fun _ _=>rfl,fun _ _=>rfl⟩
theorem out_crlf (l:List Int):Out (ofCrlf l) (fun _ r=>.int ((l.length:Int) - (r.length:Int))):=⟨⟨rfl,rfl,rfl⟩,fun _ _=>rfl,fun _ _=>rfl⟩
theorem get_put:∀ (ρ:List Slot) (i:Nat) (s:Slot),i<ρ.length→getS (putS ρ i s) i=s
 | _::_,0,_,_=>rfl
 | _::r,i+1,s,h=>get_put r i s (Nat.lt_of_succ_lt_succ h)
section
variable {F:Nat→List PV→Res PV} {G:Nat→Res PV} {W:Nat} {s:CS} {r ts us:List CS} {ρ ρ':List Slot} {kb kn k:List Slot→Res PV} {R x:Res PV} {c e:CE} {v:PV} {i n:Nat} {P:Prop} [Decidable P] {α β:Type} {O:PR α→Res PV} {A B:PR α} {l t:List Int} {q:Nat} {a:Int}
theorem go {ss:List CS} (h:run F G W ss ρ kS kN=R):outS (evSs F G W ss ρ)=R:=by
 rw [← h]; unfold run thn outS kS kN
 cases evSs F G W ss ρ with
 | ok x=>obtain ⟨f,ρ'⟩:=x; cases f <;> rfl
 | exc=>rfl
 | stuck=>rfl
theorem rn (h:evS F G W s ρ=.ok (.next,ρ')) (k:run F G W r ρ' kb kn=R):run F G W (s::r) ρ kb kn=R:=by
 rw [← k]; unfold run; rw [run_next h]
theorem rs (h:evE F G e ρ=.ok v) (k:run F G W r (putS ρ i (.val v)) kb kn=R):run F G W (.assign i e::r) ρ kb kn=R:=rn (to_assign h) k
theorem rr (h:evE F G e ρ=x):run F G W (.ret e::r) ρ kb kn=x:=by
 unfold run; rw [xSs,xret,h]
 cases x <;> rfl
theorem ry (h:evE F G c ρ=.ok (.bool true)) (k:run F G W ts ρ kb (fun ρ=>run F G W r ρ kb kn)=R):run F G W (.if_ c ts us::r) ρ kb kn=R:=by
 rw [← k]; unfold run; rw [xSs,if_yes (b_of h)]
 cases evSs F G W ts ρ with
 | ok x=>obtain ⟨f,ρ'⟩:=x; cases f <;> rfl
 | exc=>rfl
 | stuck=>rfl
theorem rf (h:evE F G c ρ=.ok (.bool false)) (k:run F G W us ρ kb (fun ρ=>run F G W r ρ kb kn)=R):run F G W (.if_ c ts us::r) ρ kb kn=R:=by
 rw [← k]; unfold run; rw [xSs,if_no (b_of h)]
 cases evSs F G W us ρ with
 | ok x=>obtain ⟨f,ρ'⟩:=x; cases f <;> rfl
 | exc=>rfl
 | stuck=>rfl
theorem rf0 (h:evE F G c ρ=.ok (.bool false)) (k:run F G W r ρ kb kn=R):run F G W (.if_ c ts []::r) ρ kb kn=R:=rf h k
theorem ri (h:evE F G c ρ=.ok (.bool (decide P))) (k1:P→run F G W ts ρ kb (fun ρ=>run F G W r ρ kb kn)=O A) (k2:¬ P→run F G W us ρ kb (fun ρ=>run F G W r ρ kb kn)=O B):run F G W (.if_ c ts us::r) ρ kb kn=O (if P then A else B):=by
 by_cases hp:P
 ·rw [decide_eq_true hp] at h; rw [if_pos hp]; exact ry h (k1 hp)
 ·rw [decide_eq_false hp] at h; rw [if_neg hp]; exact rf h (k2 hp)
theorem ri0 (h:evE F G c ρ=.ok (.bool (decide P))) (k1:P→run F G W ts ρ kb (fun ρ=>run F G W r ρ kb kn)=O A) (k2:¬ P→run F G W r ρ kb kn=O B):run F G W (.if_ c ts []::r) ρ kb kn=O (if P then A else B):=ri h k1 k2
theorem rin (h:evE F G c ρ=.ok (.bool (!decide P))) (k1:P→run F G W r ρ kb kn=O A) (k2:¬ P→run F G W ts ρ kb (fun ρ=>run F G W r ρ kb kn)=O B):run F G W (.if_ c ts []::r) ρ kb kn=O (if P then A else B):=by
 by_cases hp:P
 ·rw [decide_eq_true hp] at h; rw [if_pos hp]; exact rf0 h (k1 hp)
 ·rw [decide_eq_false hp] at h; rw [if_neg hp]; exact ry h (k2 hp)
theorem rw0 (k:wh F G W c ts W ρ kb (fun ρ=>run F G W r ρ kb kn)=R):run F G W (.while_ c ts::r) ρ kb kn=R:=by
 rw [← k]; unfold run wh; rw [xSs,xwhile]
 cases whileN (fun ρ=>evB F G c ρ) (fun ρ=>evSs F G W ts ρ) W ρ with
 | ok x=>obtain ⟨f,ρ'⟩:=x; cases f <;> rfl
 | exc=>rfl
 | stuck=>rfl
theorem wh_y (h:evE F G c ρ=.ok (.bool true)) (hk:run F G W ts ρ k (fun ρ=>wh F G W c ts n ρ kb k)=R):wh F G W c ts (n+1) ρ kb k=R:=by
 rw [← hk]; unfold wh run; rw [w_succ,b_of h,b_ok,if_pos rfl]
 cases evSs F G W ts ρ with
 | ok x=>obtain ⟨f,ρ'⟩:=x; cases f <;> rfl
 | exc=>rfl
 | stuck=>rfl
theorem wh_n (h:evE F G c ρ=.ok (.bool false)) (hk:k ρ=R):wh F G W c ts (n+1) ρ kb k=R:=by
 rw [← hk]; unfold wh; rw [w_succ,b_of h,b_ok,if_neg Bool.false_ne_true]; rfl
theorem rc {O':PR β→Res PV} {w:β→List Int→PV} {X:PR β} {f:β→List Int→PR α} (hO:Out0 O) (hO':Out O' w) (h:evE F G e ρ=O' X) (hi:Nat.blt i ρ.length=true)
  (k:∀ a s,X=.ok a s→run F G W r (putS ρ i (.val (w a s))) kb kn=O (f a s)):run F G W (.assign i e::.if_ (.cmp .is_ (.var i) (.lit .none)) [.ret (.lit .none)] []::r) ρ kb kn=O (X.bind f):=by
 have ev:∀ v,evE F G (.cmp .is_ (.var i) (.lit .none)) (putS ρ i (.val v))=.ok (.bool (isNone v)):=by
  intro v; rw [xcmp,xvar,get_put ρ i _ (Nat.le_of_ble_eq_true hi)]; rfl
 cases X with
 | none=>rw [hO'.n] at h; exact (rs h (ry (ev _) (rr rfl))).trans hO.n.symm
 | err=>rw [hO'.e] at h; unfold run; rw [run_exc (sx_exc h)]; exact hO.e.symm
 | stuck=>rw [hO'.s] at h; unfold run; rw [run_stuck (sx_stuck h)]; exact hO.s.symm
 | ok a s=>rw [hO'.o] at h; exact rs h (rf0 ((ev _).trans (by rw [hO'.x])) (k a s rfl))
theorem ix (h:l.drop q=a::t):idxP (.bytes l) (.int (q:Int))=.ok (.int a):=by
 rw [i_b,if_pos (Int.natCast_nonneg q),Int.toNat_natCast,(drop_cons h).1]; rfl
theorem re0 (hd:l.drop q=[]) (h:evE F G c ρ=.ok (.bool (decide ((l.length:Int)≤(q:Int))))):run F G W (.if_ c [.ret (.lit .none)] []::r) ρ kb kn=.ok .none :=
 ry (by rw [h,decide_eq_true (Int.ofNat_le.2 (drop_nil hd))]) (rr rfl)
theorem re1 (hd:l.drop q=a::t) (h:evE F G c ρ=.ok (.bool (decide ((l.length:Int)≤(q:Int))))) (k:run F G W r ρ kb kn=R):run F G W (.if_ c [.ret (.lit .none)] []::r) ρ kb kn=R :=
 rf0 (by rw [h,decide_eq_false (fun hh=>Nat.not_lt.2 (Int.ofNat_le.1 hh) (drop_cons hd).2.2)]) k
theorem pos_at (h:l.drop q=t) (hq:q≤l.length):(l.length:Int) - (t.length:Int)=(q:Int):=by
 rw [← h,List.length_drop,Int.ofNat_sub hq,Int.sub_sub_self]
theorem pos_tl (h:l.drop q=a::t):(l.length:Int) - (t.length:Int)=(q:Int)+1:=pos_at (q:=q+1) (drop_cons h).2.1 (drop_cons h).2.2
theorem rest_at {u:List Int} (h:l.drop q=u++t) (hq:q≤l.length):∃ p:Nat,q+u.length=p∧(l.length:Int) - (t.length:Int)=(p:Int)∧l.drop p=t∧p≤l.length:=by
 have hd:l.drop (q+u.length)=t:=by rw [← List.drop_drop,h,List.drop_left]
 have hp:q+u.length≤l.length:=by
  have hl:l.length - q=u.length+t.length:=by rw [← List.length_drop,h,List.length_append]
  omega
 exact ⟨_,rfl,pos_at hd hp,hd,hp⟩
theorem lt_no (h:l.drop q=[]):decide ((q:Int)<(l.length:Int))=false:=decide_eq_false fun hh=>Nat.not_lt.2 (drop_nil h) (Int.ofNat_lt.1 hh)
theorem lt_yes (h:l.drop q=a::t):decide ((q:Int)<(l.length:Int))=true:=decide_eq_true (Int.ofNat_lt.2 (drop_cons h).2.2)
theorem eq_yes (h:l.drop q=[]) (hq:q≤l.length):((q:Int) == (l.length:Int))=true:=beq_iff_eq.2 (congrArg Nat.cast (Nat.le_antisymm hq (drop_nil h)))
theorem eq_no (h:l.drop q=a::t):((q:Int) == (l.length:Int))=false:=beq_eq_false_iff_ne.2 fun e=>Nat.ne_of_lt (drop_cons h).2.2 (Int.ofNat.inj e)
theorem wh_b {b:Bool} (h:evE F G c ρ=.ok (.bool b)) (hk:run F G W ts ρ k (fun ρ=>wh F G W c ts n ρ kb k)=R):wh F G W c ts (n+1) ρ kb k=if b then R else k ρ:=by
 cases b
 ·exact wh_n h rfl
 ·exact wh_y h hk
theorem okp {z:Int} (h:(l.length:Int) - (t.length:Int)=z):Res.ok (.tuple [v,.int z])=ofPR l (.ok v t):=by
 rw [← h]; rfl
theorem bT {p:Bool} (h:p=true):Res.ok (PV.bool p)=.ok (.bool true):=by rw [h]
theorem bF {p:Bool} (h:p=false):Res.ok (PV.bool p)=.ok (.bool false):=by rw [h]
noncomputable def onS {α:Type} (o:Option (List Int)) (f:List Int→PR α):PR α:=match o with | none=>.stuck | some r=>f r
theorem scan_do {σ:Type} (mk:Int→σ→List Slot) (p:Int→Bool) {f:List Int→PR α} (hO:O .stuck=.stuck)
  (h0:∀ (q:Nat) s n,l.drop q=[]→wh F G W c ts (n+1) (mk q s) kb k=k (mk q s))
  (h1:∀ (q:Nat) s n x t,l.drop q=x::t→∃ s',wh F G W c ts (n+1) (mk q s) kb k=if p x then wh F G W c ts n (mk ((q:Int)+1) s') kb k else k (mk q s')) :
  ∀ (n q:Nat) (s:σ),q≤l.length→(∀ u r (z:Nat) s',l.drop q=u++r→q+u.length=z→l.drop z=r→z≤l.length→k (mk z s')=O (f r))→wh F G W c ts n (mk q s) kb k=O (onS (scanN p n (l.drop q)) f)
 | 0,_,_,_,_=>hO.symm
 | n+1,q,s,hq,hk=>by
  rcases hd:l.drop q with _ | ⟨x,t⟩
  ·exact (h0 q s n hd).trans (hk [] [] q s hd rfl hd hq)
  ·obtain ⟨s',e⟩:=h1 q s n x t hd
   have h2:=drop_cons hd
   rw [e]
   show _=O (onS (if p x then scanN p n t else some (x::t)) f)
   cases p x
   ·exact hk [] (x::t) q s' hd rfl hd hq
   ·rw [← h2.2.1]
    exact scan_do mk p hO h0 h1 n (q+1) s' h2.2.2 fun u r z s'' a b=>hk (x::u) r z s'' (by rw [hd,← h2.2.1,a]; rfl) (by rw [← b]; exact (Nat.succ_add_eq_add_succ q u.length).symm)
theorem ev_or2 {a b:CE} {p q:Bool} (h1:evE F G a ρ=.ok (.bool p)) (h2:evE F G b ρ=.ok (.bool q)):evE F G (.or_ [a,b]) ρ=.ok (.bool (p || q)):=by
 rw [xor,xR2,h1]
 cases p
 ·exact h2
 ·rfl
theorem ev_and2 {a b:CE} {p q:Bool} (h1:evE F G a ρ=.ok (.bool p)) (h2:evE F G b ρ=.ok (.bool q)):evE F G (.and_ [a,b]) ρ=.ok (.bool (p && q)):=by
 rw [xand,xA2,h1]
 cases p
 ·rfl
 ·exact h2
theorem bd {p:Bool} (h:evE F G c ρ=.ok (.bool p)) (hp:p=true↔P):evE F G c ρ=.ok (.bool (decide P)):=by
 rw [h]; congr 2; rw [Bool.eq_iff_iff,hp,decide_eq_true_iff]
end
section
variable {T:Nat→Option CF} {G:Nat→Res PV} {W:Nat} (L:Lib T G) {d:Nat} {r:List CS} {ρ:List Slot} {kb kn:List Slot→Res PV} {c:CE} {P:Prop} [Decidable P] {α:Type} {O:PR α→Res PV} {A:PR α}
include L
theorem rq (hO:O .err=.exc) (h:evE (den T G W (d+1)) G c ρ=.ok (.bool (decide P))) (k:P→run (den T G W (d+1)) G W r ρ kb kn=O A):run (den T G W (d+1)) G W (.expr (.call 0 [c])::r) ρ kb kn=O (if P then A else .err):=by
 by_cases hp:P
 ·rw [decide_eq_true hp] at h; rw [if_pos hp]; exact rn (need_y L h) (k hp)
 ·rw [decide_eq_false hp] at h; rw [if_neg hp]; unfold run; rw [run_exc (need_n L h)]; exact hO.symm
theorem rqn (hO:O .err=.exc) (h:evE (den T G W (d+1)) G c ρ=.ok (.bool (!decide P))) (k:¬ P→run (den T G W (d+1)) G W r ρ kb kn=O A):run (den T G W (d+1)) G W (.expr (.call 0 [c])::r) ρ kb kn=O (if P then .err else A):=by
 by_cases hp:P
 ·rw [decide_eq_true hp] at h; rw [if_pos hp]; unfold run; rw [run_exc (need_n L h)]; exact hO.symm
 ·rw [decide_eq_false hp] at h; rw [if_neg hp]; exact rn (need_y L h) (k hp)
end
section
variable {F:Nat→List PV→Res PV} {G:Nat→Res PV} {W:Nat} {r:List CS} {ρ:List Slot} {kb kn:List Slot→Res PV} {R:Res PV} {c e a b:CE} {v y z:PV} {i f:Nat} {l:List Int} {m:List PV}
theorem rbk (k:kb ρ=R):run F G W (.brk::r) ρ kb kn=R:=k
theorem ev_idx {n:Int} {x:PV} {R:Res PV} (h1:evE F G a ρ=.ok x) (h2:idxP x (.int n)=R):evE F G (.idx a (.lit (.int n))) ρ=R:=by
 rw [xidx,h1,b_ok,xlit,b_ok,h2]
theorem r0 (k:kn ρ=R):run F G W [] ρ kb kn=R:=k
theorem rag {x w:Int} (h:getS ρ i=.val (.int x)) (k:run F G W r (putS ρ i (.val (.int (x+w)))) kb kn=R):run F G W (.aug i .add (.lit (.int w))::r) ρ kb kn=R:=rn (by rw [xaug,h]; rfl) k
theorem rfz (h:getS ρ i=.own m) (k:run F G W r (putS ρ i (.val (.list m))) kb kn=R):run F G W (.frz i::r) ρ kb kn=R:=rn (by rw [xfrz,h]) k
theorem rap (h:getS ρ i=.own m) (he:evE F G e ρ=.ok v) (hl:m.length<lim) (k:run F G W r (putS ρ i (.own (m++[v]))) kb kn=R):run F G W (.app i e::r) ρ kb kn=R :=
 rn (by rw [xapp,h]; show (evE F G e ρ).bind _=_; rw [he,b_ok,if_pos hl]) k
theorem row0 (k:run F G W r (putS ρ i (.own [])) kb kn=R):run F G W (.own i []::r) ρ kb kn=R:=rn rfl k
theorem to_call1 (h:evE F G a ρ=.ok v):evE F G (.call f [a]) ρ=F f [v]:=by
 rw [xcall,xE1,h]; rfl
theorem nm {x:PV} (h1:evE F G a ρ=.ok x) (h2:evE F G b ρ=.ok y) (h3:evE F G c ρ=.ok z):evE F G (.tup [a,b,c]) ρ=.ok (.tuple [x,y,z]):=by
 rw [xtup,xE1,h1,b_ok,xE1,h2,b_ok,xE1,h3]; rfl
theorem tup2 (h1:evE F G a ρ=.ok y) (h2:evE F G b ρ=.ok z):evE F G (.tup [a,b]) ρ=.ok (.tuple [y,z]):=by
 rw [xtup,xE1,h1,b_ok,xE1,h2]; rfl
theorem ev_rng {p q s:Int} (h1:evE F G a ρ=.ok (.int p)) (h2:evE F G b ρ=.ok (.int q)) (h3:evE F G c ρ=.ok (.int s)):evE F G (.cmp2 .lt .lt a b c) ρ=.ok (.bool (decide (p<q) && decide (q<s))):=by
 rw [xcmp2,h1,b_ok,h2,b_ok,h3,c_lti,b_ok]
 cases decide (p<q) <;> rfl
theorem ev_and3 {p q s:Bool} (h1:evE F G a ρ=.ok (.bool p)) (h2:evE F G b ρ=.ok (.bool q)) (h3:evE F G c ρ=.ok (.bool s)):evE F G (.and_ [a,b,c]) ρ=.ok (.bool (p && (q && s))):=by
 rw [xand,xA2,h1]
 cases p
 ·rfl
 ·exact ev_and2 (p:=q) (q:=s) h2 h3
theorem ev_cut {q k:Nat} (h1:evE F G a ρ=.ok (.bytes l)) (h2:evE F G b ρ=.ok (.int (q:Int))) (h3:evE F G c ρ=.ok (.int ((q+k:Nat):Int))):evE F G (.slc a (some b) (some c)) ρ=.ok (.bytes ((l.drop q).take k)):=by
 rw [xslc,h1,b_ok,xO1,h2,b_ok,b_ok,xO1,h3,b_ok,b_ok,e_some,if_pos (Int.natCast_nonneg _),b_ok,e_some,if_pos (Int.natCast_nonneg _),b_ok,s_b]
 exact congrArg (fun x=>Res.ok (PV.bytes x)) (cut_two k)
theorem ev_pre {k:Nat} (h1:evE F G a ρ=.ok (.bytes l)) (h3:evE F G c ρ=.ok (.int (k:Int))):evE F G (.slc a none (some c)) ρ=.ok (.bytes (l.take k)):=by
 rw [xslc,h1,b_ok,xO,b_ok,xO1,h3,b_ok,b_ok,e_none,b_ok,e_some,if_pos (Int.natCast_nonneg _),b_ok,s_b]
 rfl
theorem ev_from {q:Nat} (h1:evE F G a ρ=.ok (.bytes l)) (h2:evE F G b ρ=.ok (.int (q:Int))):evE F G (.slc a (some b) none) ρ=.ok (.bytes (l.drop q)):=by
 rw [xslc,h1,b_ok,xO1,h2,b_ok,b_ok,xO,b_ok,e_some,if_pos (Int.natCast_nonneg _),b_ok,e_none,b_ok,s_b]
 rfl
theorem byte_app {x:Int} (h:∀ x∈l,0≤x∧x<256) (hx:0≤x∧x<256):∀ y∈l++[x],0≤y∧y<256:=by
 intro y hy
 rcases List.mem_append.1 hy with h' | h'
 ·exact h y h'
 ·rw [List.mem_singleton.1 h']; exact hx
theorem len_app {α:Type} {m:List α} {v:α} {q p:Nat} (h:m.length≤q) (hp:q<p):(m++[v]).length≤p:=by
 rw [List.length_append]; exact Nat.le_trans (Nat.succ_le_succ h) hp
end
section
variable {F:Nat→List PV→Res PV} {G:Nat→Res PV} {W:Nat} {ρ:List Slot} {a b c e:CE} {ts:List CS} {P:Prop} [Decidable P]
theorem ev_andF {l:List CE} (h1:evE F G a ρ=.ok (.bool false)):evE F G (.and_ (a::b::l)) ρ=.ok (.bool false):=by
 rw [xand,xA2,h1]; rfl
theorem ev_bin {o:BOp} {x y:PV} {R:Res PV} (h1:evE F G a ρ=.ok x) (h2:evE F G b ρ=.ok y) (h3:binP o x y=R):evE F G (.bin o a b) ρ=R:=by
 rw [xbin,h1,b_ok,h2,b_ok,h3]
theorem if_fun {α β:Type} (R:α→β→List Slot) {x y:α} {x' y':β} (hb:evE F G c ρ=.ok (.bool (decide P))) (hy:P→evSs F G W ts ρ=.ok (.next,R x x')) (hn:R y y'=ρ):evS F G W (.if_ c ts []) ρ=.ok (.next,R (if P then x else y) (if P then x' else y')):=by
 by_cases h:P
 ·rw [if_yes (b_yes hb h),hy h,if_pos h,if_pos h]
 ·rw [if_no (b_no hb h),run_nil,if_neg h,if_neg h,hn]
theorem if_put {α:Type} (f:α→PV) {i:Nat} {x y:α} (hb:evE F G c ρ=.ok (.bool (decide P))) (hy:P→evE F G e ρ=.ok (f x)) (hn:putS ρ i (.val (f y))=ρ):evS F G W (.if_ c [.assign i e] []) ρ=.ok (.next,putS ρ i (.val (f (if P then x else y)))) :=
 if_fun (α:=α) (β:=Unit) (fun a _=>putS ρ i (.val (f a))) (x':=()) (y':=()) hb (fun h=>run_next (to_assign (hy h))) hn
end
theorem ahead_app {x u r:List Int} (h:x=u++r):ahead x r=u:=by
 unfold ahead; rw [h,List.length_append,Nat.add_sub_cancel,List.take_left]
noncomputable def runF (x r:List Int):PR (List Int):=match r with
 | []=>.none
 | c::t=>if (c::t).length<x.length then .ok (ahead x (c::t)) (c::t) else .err
theorem runP_eq (W:Nat) (p:Int→Bool) (x:List Int):runP W p x=onS (scanN p W x) (runF x):=by
 unfold runP; rcases scanN p W x with _ | _ | ⟨c,t⟩ <;> rfl
theorem run_ok {W:Nat} {p:Int→Bool} {x a r:List Int} (h:runP W p x=.ok a r):x=a++r∧∃ c t,r=c::t:=by
 rw [runP_eq] at h
 rcases hs:scanN p W x with _ | _ | ⟨c,t⟩
 ·rw [hs] at h; cases h
 ·rw [hs] at h; cases h
 ·rw [hs] at h
  obtain ⟨u,hu⟩:=scanN_len _ _ _ _ hs
  by_cases hl:(c::t).length<x.length
  ·rw [show onS (some (c::t)) (runF x)=if (c::t).length<x.length then .ok (ahead x (c::t)) (c::t) else .err from rfl,if_pos hl,ahead_app hu] at h
   cases h; exact ⟨hu,c,t,rfl⟩
  ·rw [show onS (some (c::t)) (runF x)=if (c::t).length<x.length then .ok (ahead x (c::t)) (c::t) else .err from rfl,if_neg hl] at h
   cases h
section
variable {F:Nat→List PV→Res PV} {G:Nat→Res PV} {W:Nat} {ρ:List Slot} {kb kn:List Slot→Res PV} {a b c:CE} {l u r:List Int} {p q i j:Nat}
theorem ev_ahd (h1:evE F G a ρ=.ok (.bytes l)) (h2:evE F G b ρ=.ok (.int (q:Int))) (h3:evE F G c ρ=.ok (.int (p:Int))) (hu:l.drop q=u++r) (hp:q+u.length=p):evE F G (.slc a (some b) (some c)) ρ=.ok (.bytes (ahead (l.drop q) r)):=by
 subst hp; rw [ev_cut h1 h2 h3,ahead_app hu,hu,List.take_left]
theorem brk_or {x:Bool} {z:Int} (h:getS ρ i=.val (.bool x)) (h2:getS ρ j=.val (.int z)):run F G W [.if_ (.not_ (.var i)) [.brk] [],.aug j .add (.lit (.int 1))] ρ kb kn=if x then kn (putS ρ j (.val (.int (z+1)))) else kb ρ:=by
 have e:evE F G (.not_ (.var i)) ρ=.ok (.bool (!x)):=by rw [xnot,xvar,h]; rfl
 cases x
 ·exact ry e rfl
 ·exact rf0 e (rag h2 rfl)
end
section
variable {T:Nat→Option CF} {G:Nat→Res PV} {W:Nat} (L:Lib T G)
include L
theorem d_read_run (d:Nat) (l:List Int) (q:Nat) (hq:q≤l.length) (b:Bool):den T G W (d+3) 11 [.bytes l,.int q,.bool b]=ofRun l (runP W (if b then isLet else isTagC) (l.drop q)):=by
 rw [den_code L.t11 rfl,runP_eq]
 refine go (rs rfl (rs rfl (rw0 ?_)))
 refine scan_do (l:=l) (O:=ofRun l) (σ:=Slot × Slot) (fun z a=>[.val (.bytes l),.val (.int (q:Int)),.val (.bool b),.val (.int l.length),.val (.int z),a.1,a.2]) (if b then isLet else isTagC) rfl (fun z a n hd=>?_) (fun z a n x t hd=>⟨(.val (.int x),.val (.bool ((if b then isLet else isTagC) x))),?_⟩) W q (.unset,.unset) hq fun u r z a hu hz hr hl=>?_
 ·exact wh_n (bF (lt_no hd)) rfl
 ·refine wh_y (bT (lt_yes hd)) (rs (ix hd) ?_)
  cases b
  ·exact rf rfl (rs (Eq.trans (to_call1 rfl) (d_is_tag_char L d x)) (r0 (brk_or rfl rfl)))
  ·exact ry rfl (rs (Eq.trans (to_call1 rfl) (d_is_letter L (d+1) x)) (r0 (brk_or rfl rfl)))
 ·rcases r with _ | ⟨c,t⟩
  ·exact ry (bT (eq_yes hr hl)) (rr rfl)
  ·refine rf0 (bF (eq_no hr)) (rq L rfl (bd rfl ?_) fun _=>rr (Eq.trans (tup2 (ev_ahd rfl rfl rfl hu hz) rfl) (congrArg (fun z=>Res.ok (PV.tuple [.bytes _,.int z])) (pos_at hr hl).symm)))
   rw [decide_eq_true_iff,hu,List.length_append,← hz]; omega
theorem d_read_crlf (d:Nat) (l:List Int) (q:Nat) (hq:q≤l.length):den T G W (d+2) 12 [.bytes l,.int q]=ofCrlf l (crlfP (l.drop q)):=by
 rw [den_code L.t12 rfl]
 refine go (rs (ev_cut (k:=2) rfl rfl rfl) (rq L rfl (bd (ev_cmp rfl (ev_pre rfl rfl) rfl) beq_iff_eq) fun _=>ri0 (bd rfl (decide_eq_true_iff.trans Int.ofNat_lt)) (fun _=>rr rfl) fun h=>rr ?_))
 refine congrArg (fun z=>Res.ok (PV.int z)) (pos_at (q:=q+2) (by rw [List.drop_drop]) ?_).symm
 rw [List.length_take,List.length_drop] at h; omega
end
noncomputable def fr (F:Nat→List PV→Res PV) (G:Nat→Res PV) (W:Nat) (i:Nat) (b:List CS) (vs:List PV) (ρ:List Slot) (kb kn:List Slot→Res PV):Res PV:=thn (forN (fun ρ v=>.ok (putS ρ i (.val v))) (fun ρ=>evSs F G W b ρ) vs ρ) kb kn
section
variable {F:Nat→List PV→Res PV} {G:Nat→Res PV} {W:Nat} {ρ:List Slot} {kb kn:List Slot→Res PV} {a b c e:CE} {i:Nat} {ts r:List CS} {vs:List PV} {v:PV} {R:Res PV} {p q:Bool}
theorem rfo (h:evE F G e ρ=.ok v) (hv:itemsP v=.ok vs) (k:fr F G W i ts vs ρ kb (fun ρ=>run F G W r ρ kb kn)=R):run F G W (.for_ i e ts::r) ρ kb kn=R:=by
 rw [← k]; unfold run fr; rw [xSs,xfor,h,b_ok,hv,b_ok]
 cases forN (fun ρ v=>.ok (putS ρ i (.val v))) (fun ρ=>evSs F G W ts ρ) vs ρ with
 | ok x=>obtain ⟨f,ρ'⟩:=x; cases f <;> rfl
 | exc=>rfl
 | stuck=>rfl
theorem fr_cons (k:run F G W ts (putS ρ i (.val v)) kn (fun ρ=>fr F G W i ts vs ρ kb kn)=R):fr F G W i ts (v::vs) ρ kb kn=R:=by
 rw [← k]; unfold run fr; rw [f_cons,b_ok]
 cases evSs F G W ts (putS ρ i (.val v)) with
 | ok x=>obtain ⟨f,ρ'⟩:=x; cases f <;> rfl
 | exc=>rfl
 | stuck=>rfl
theorem ev_andC {l:List CE} (h1:evE F G a ρ=.ok (.bool p)) (h2:evE F G (.and_ (b::l)) ρ=.ok (.bool q)):evE F G (.and_ (a::b::l)) ρ=.ok (.bool (p && q)):=by
 rw [xand,xA2,h1]
 cases p
 ·rfl
 ·exact h2
theorem rib {x y:Res PV} (h:evE F G c ρ=.ok (.bool p)) (k1:run F G W ts ρ kb (fun ρ=>run F G W r ρ kb kn)=x) (k2:run F G W r ρ kb kn=y):run F G W (.if_ c ts []::r) ρ kb kn=if p then x else y:=by
 cases p
 ·exact rf0 h k2
 ·exact ry h k1
theorem bE (h:p=q):Res.ok (PV.bool p)=.ok (.bool q):=by rw [h]
end
end Mine
namespace Mine
theorem ints_app {x:Int}:∀ {m:List PV} {acc:List Int},intsOf m=some acc→intsOf (m++[.int x])=some (acc++[x])
 | [],acc,h=>by cases h; rfl
 | .int i::r,acc,h=>by
  have h':(intsOf r).map (i::·)=some acc:=h
  cases e:intsOf r with
  | none=>rw [e] at h'; cases h'
  | some a =>
   rw [e] at h'; cases h'
   show (intsOf (r++[.int x])).map (i::·)=_
   rw [ints_app e]; rfl
theorem bytes_ok {m:List PV} {acc:List Int} (h:intsOf m=some acc) (hr:∀ x∈acc,0≤x∧x<256):bytesP (.list m)=.ok (.bytes acc):=by
 show (match intsOf m with | some ns=>if ∀ n∈ns,0≤n∧n<256 then Res.ok (PV.bytes ns) else .stuck | none=>.stuck)=_
 rw [h]; exact if_pos hr
theorem quoN_34 (n:Nat) (acc t:List Int):quoN (n+1) acc (34::t)=.ok (strV acc) t:=rfl
theorem quoN_92 (n:Nat) (acc:List Int):quoN (n+1) acc [92]=.none:=rfl
theorem quoN_92y (n:Nat) (acc u:List Int) (y:Int):quoN (n+1) acc (92::y::u)=if y=34∨y=92 then quoN n (acc++[y]) u else .err:=rfl
theorem quoN_c (n:Nat) (acc t:List Int) (c:Int) (h1:c≠34) (h2:c≠92):quoN (n+1) acc (c::t)=if (0<c∧c<128)∧c≠10∧c≠13 then quoN n (acc++[c]) t else .err:=by
 show (if c=34 then _ else if c=92 then _ else _)=_
 rw [if_neg h1,if_neg h2]
section
variable {T:Nat→Option CF} {G:Nat→Res PV} {W:Nat} (L:Lib T G)
include L
noncomputable def quoB:List CS:=[.if_ (.cmp .ge (.var 1) (.var 2)) [.ret (.lit .none)] [],.assign 4 (.idx (.var 0) (.var 1)),.aug 1 .add (.lit (.int 1)),.if_ (.cmp .eq (.var 4) (.lit (.int 34))) [.frz 3,.ret (.tup [(.tup [(.lit (.str [115,116,114,105,110,103])),(.mkBytes (.var 3))]),(.var 1)])] [],.if_ (.cmp .eq (.var 4) (.lit (.int 92))) [.if_ (.cmp .ge (.var 1) (.var 2)) [.ret (.lit .none)] [],.expr (.call 0 [(.or_ [(.cmp .eq (.idx (.var 0) (.var 1)) (.lit (.int 34))),(.cmp .eq (.idx (.var 0) (.var 1)) (.lit (.int 92)))])]),.assign 4 (.idx (.var 0) (.var 1)),.aug 1 .add (.lit (.int 1))] [.expr (.call 0 [(.and_ [(.cmp2 .lt .lt (.lit (.int 0)) (.var 4) (.lit (.int 128))),(.cmp .ne (.var 4) (.lit (.int 10))),(.cmp .ne (.var 4) (.lit (.int 13)))])])],.app 3 (.var 4)]
theorem quo_loop (d:Nat) (l:List Int) (hlim:l.length<lim) (kb k:List Slot→Res PV):∀ (n q:Nat) (acc:List Int) (m:List PV) (s:Slot),q≤l.length→m.length≤q→intsOf m=some acc→(∀ x∈acc,0≤x∧x<256) →
  wh (den T G W (d+1)) G W (.lit (.bool true)) quoB n [.val (.bytes l),.val (.int q),.val (.int l.length),.own m,s] kb k=ofPR l (quoN n acc (l.drop q))
 | 0,q,acc,m,s,_,_,_,_=>rfl
 | n+1,q,acc,m,s,hq,ha,hm,hr=>by
  refine wh_y rfl ?_
  rcases hd:l.drop q with _ | ⟨c,t⟩
  ·exact re0 hd rfl
  obtain ⟨_,h2,h3⟩:=drop_cons hd
  refine re1 hd rfl (rs (ix hd) (rag rfl (ri0 (P:=c=34) (O:=ofPR l) rfl (fun _=>rfz rfl (rr (Eq.trans (tup2 (tup2 rfl (bytes_ok hm hr)) rfl) (okp (pos_tl hd))))) fun _=>ri (P:=c=92) rfl (fun _=>?_) fun _=>?_)))
  ·rcases t with _ | ⟨y,u⟩
   ·exact re0 h2 rfl
   ·refine re1 h2 rfl (rq L (P:=y=34∨y=92) rfl (bd (ev_or2 (ev_cmp (ix h2) rfl rfl) (ev_cmp (ix h2) rfl rfl)) (by rw [Bool.or_eq_true,beq_iff_eq,beq_iff_eq])) fun hy=>rs (ix h2) (rag rfl (r0 (rap rfl rfl (Nat.lt_of_le_of_lt ha (by lia)) (r0 ?_)))))
    exact (quo_loop d l hlim kb k n (q+2) (acc++[y]) (m++[.int y]) (.val (.int y)) (drop_cons h2).2.2 (len_app ha (by lia)) (ints_app hm) (byte_app hr (by lia))).trans (congrArg (fun x=>ofPR l (quoN n (acc++[y]) x)) (drop_cons h2).2.1)
  ·refine rq L (P:=(0<c∧c<128)∧c≠10∧c≠13) rfl (bd (ev_and3 (ev_rng rfl rfl rfl) rfl rfl) (by simp only [Bool.and_eq_true,decide_eq_true_iff,Bool.not_eq_true',beq_eq_false_iff_ne])) fun hy=>r0 (rap rfl rfl (Nat.lt_of_le_of_lt ha (by lia)) (r0 ?_))
   exact (quo_loop d l hlim kb k n (q+1) (acc++[c]) (m++[.int c]) (.val (.int c)) h3 (len_app ha (by lia)) (ints_app hm) (byte_app hr (by lia))).trans (congrArg (fun x=>ofPR l (quoN n (acc++[c]) x)) h2)
theorem d_read_quoted (d:Nat) (l:List Int) (hlim:l.length<lim) (q:Nat) (hq:q≤l.length):den T G W (d+2) 18 [.bytes l,.int q]=ofPR l (quoN W [] (l.drop q)):=by
 rw [den_code L.t18 rfl]
 exact go (rs rfl (row0 (rw0 (quo_loop L d l hlim _ _ W q [] [] .unset hq (Nat.zero_le _) rfl (by intro x hx; cases hx)))))
noncomputable def litB:List CS:=[.assign 4 (.bin .add (.bin .mul (.var 4) (.lit (.int 10))) (.bin .sub (.idx (.var 0) (.var 3)) (.lit (.int 48)))),.if_ (.cmp .ge (.var 4) (.glob 0)) [.assign 4 (.glob 0)] [],.aug 3 .add (.lit (.int 1))]
noncomputable def litK (k:List Slot→Res PV) (l:List Int) (p:Nat):Option (Int × List Int)→Res PV
 | none=>.stuck
 | some (v,r)=>k [.val (.bytes l),.val (.int p),.val (.int l.length),.val (.int ((l.length:Int) - (r.length:Int))),.val (.int v),.unset,.unset]
theorem lit_loop (d:Nat) (l:List Int) (p:Nat) (kb k:List Slot→Res PV):∀ (n q:Nat) (v:Int),q≤l.length→0≤v→v≤4294967296 →
  wh (den T G W (d+1)) G W (.and_ [(.cmp .lt (.var 3) (.var 2)),(.call 1 [(.idx (.var 0) (.var 3))])]) litB n
   [.val (.bytes l),.val (.int p),.val (.int l.length),.val (.int q),.val (.int v),.unset,.unset] kb k=litK k l p (litN n v (l.drop q))
 | 0,q,v,_,_,_=>rfl
 | n+1,q,v,hq,hv,hv2=>by
  rcases hd:l.drop q with _ | ⟨c,t⟩
  ·refine wh_n ?_ (by show _=k [_,_,_,.val (.int ((l.length:Int) - (([]:List Int).length:Int))),_,_,_]; rw [pos_at hd hq])
   exact ev_andF (bF (lt_no hd))
  have hc:evE (den T G W (d+1)) G (.and_ [(.cmp .lt (.var 3) (.var 2)),(.call 1 [(.idx (.var 0) (.var 3))])]) [.val (.bytes l),.val (.int p),.val (.int l.length),.val (.int q),.val (.int v),.unset,.unset]=.ok (.bool (isDig c)):=by
   refine Eq.trans (ev_and2 rfl (Eq.trans (to_call1 (ix hd)) (d_is_digit L d c))) ?_
   rw [lt_yes hd]; rfl
  show _=litK k l p (if isDig c then litN n (clamp (v * 10+(c - 48))) t else some (v,c::t))
  cases hi:isDig c
  ·exact wh_n (hi ▸ hc) (by show _=k [_,_,_,.val (.int ((l.length:Int) - ((c::t).length:Int))),_,_,_]; rw [pos_at hd hq])
  ·have h2:=drop_cons hd
   have hc':48≤c∧c≤57:=by simpa only [isDig,Bool.and_eq_true,decide_eq_true_iff] using hi
   refine wh_y (hi ▸ hc) (rs (ev_bin (ev_bin rfl rfl (if_pos ⟨by lia,by decide⟩)) (ev_bin (ix hd) rfl rfl) rfl) (rn (if_put PV.int (ev_cmp rfl L.g0 rfl) (fun _=>L.g0) rfl) (rag rfl (r0 ?_))))
   exact (lit_loop d l p kb k n (q+1) (clamp (v * 10+(c - 48))) h2.2.2 (by unfold clamp; split <;> lia) (by unfold clamp; split <;> lia)).trans (congrArg (fun x=>litK k l p (litN n (clamp (v * 10+(c - 48))) x)) h2.2.1)
omit L in
theorem litN_suf:∀ (n:Nat) (v:Int) (x:List Int) (v':Int) (r:List Int),0≤v→litN n v x=some (v',r)→(∃ u,x=u++r)∧0≤v'
 | 0,_,_,_,_,_,h=>by cases h
 | n+1,v,[],v',r,hv,h=>by simp [litN] at h; exact ⟨⟨[],by simp [h.2]⟩,by lia⟩
 | n+1,v,c::t,v',r,hv,h=>by
  rw [litN] at h
  split at h
  ·rename_i hc
   simp only [isDig,Bool.and_eq_true,decide_eq_true_iff] at hc
   obtain ⟨⟨u,e⟩,h2⟩:=litN_suf n _ t v' r (by unfold clamp; split <;> lia) h
   exact ⟨⟨c::u,by rw [e]; rfl⟩,h2⟩
  ·cases h; exact ⟨⟨[],rfl⟩,hv⟩
omit L in
theorem lit_len {l:List Int} {q m:Nat} (h:¬ (((l.drop q).take 3).length<3∨((((l.drop q).drop 3).take m).length:Int)<m)):q+3+m≤l.length:=by
 have h1:=Nat.not_lt.1 fun hh=>h (.inl hh)
 have h2:m≤(((l.drop q).drop 3).take m).length:=Nat.not_lt.1 fun hh=>h (.inr (Int.ofNat_lt.2 hh))
 rw [List.length_take,List.length_drop] at h1
 rw [List.length_take,List.length_drop,List.length_drop] at h2
 omega
theorem d_read_literal (d:Nat) (l:List Int) (p:Nat) (hp:p≤l.length):den T G W (d+2) 19 [.bytes l,.int p]=ofPR l (litP W (l.drop p)):=by
 rw [den_code L.t19 rfl]
 refine go (rs rfl (rs rfl (rs rfl (rw0 ((lit_loop L d l p _ _ W p 0 hp (Int.le_refl 0) (by decide)).trans ?_)))))
 show _=ofPR l (match litN W 0 (l.drop p) with | none=>.stuck | some (n,r)=>_)
 rcases hs:litN W 0 (l.drop p) with _ | ⟨n,r⟩
 ·rfl
 obtain ⟨⟨u,hu⟩,hn0⟩:=litN_suf _ _ _ _ _ (Int.le_refl 0) hs
 obtain ⟨q,hqu,hqr,rfl,hql⟩:=rest_at hu hp
 obtain ⟨m,rfl⟩:=Int.eq_ofNat_of_zero_le hn0
 show run _ _ _ _ [_,_,_,.val (.int ((l.length:Int) - ((l.drop q).length:Int))),_,_,_] _ _=_
 rw [hqr]
 refine rq L rfl (ev_cmp rfl L.g0 rfl) fun _=>rs (ev_cut (k:=3) rfl rfl rfl) (rq L rfl (bd (ev_cmp rfl (ev_pre rfl rfl) rfl) beq_iff_eq) fun _=>rq L rfl (bd (ev_or2 (ev_cmp rfl rfl rfl) (ev_cmp rfl rfl rfl)) ?_) fun _ =>
  rs (v:=.bytes (((l.drop q).drop 3).take m)) (Eq.trans (ev_cut (q:=q+3) (k:=m) rfl rfl rfl) (by rw [List.drop_drop])) (rqn L rfl rfl fun _=>ri0 (bd (ev_or2 (ev_cmp rfl rfl rfl) (ev_cmp rfl rfl rfl)) ?_) (fun _=>rr rfl) fun h5=>rr ?_))
 ·simp only [Bool.or_eq_true,decide_eq_true_iff,beq_iff_eq,List.length_drop]; lia
 ·rw [Bool.or_eq_true,decide_eq_true_iff,decide_eq_true_iff]; exact or_congr Int.ofNat_lt Iff.rfl
 ·exact okp (pos_at (q:=q+3+m) (by rw [List.drop_drop,Nat.add_assoc]; rfl) (lit_len h5))
end
end Mine
namespace Mine
section
variable {T:Nat→Option CF} {G:Nat→Res PV} {W:Nat} (L:Lib T G)
include L
omit L in
theorem skip_no {c:Int} {t:List Int} (h:c≠92):skip92 (c::t)=c::t:=by
 unfold skip92; split
 ·rename_i heq; cases heq; exact absurd rfl h
 ·rfl
noncomputable def wordF (x r:List Int):PR PV:=match r with
 | []=>.none
 | c::t=>wordEnd (ahead x (c::t)) (c::t)
omit L in
theorem wordP_eq (W:Nat) (x:List Int):wordP W x=onS (scanN isAtomC W (skip92 x)) (wordF x):=by
 unfold wordP; rcases scanN isAtomC W (skip92 x) with _ | _ | ⟨c,t⟩ <;> rfl
theorem d_read_word (d:Nat) (l:List Int) (hD:∀ x∈l,0≤x∧x<256) (p:Nat) (hp:p≤l.length):den T G W (d+3) 20 [.bytes l,.int p]=ofPR l (wordP W (l.drop p)):=by
 rw [den_code L.t20 rfl,wordP_eq]
 refine go (rs rfl (rs rfl ?_))
 have hf:∃ (q:Nat) (v:List Int),q≤l.length∧p+v.length=q∧l.drop p=v++l.drop q∧l.drop q=skip92 (l.drop p)∧∀ r kb kn,run (den T G W (d+2)) G W (.if_ (.and_ [(.cmp .lt (.var 3) (.var 2)),(.cmp .eq (.idx (.var 0) (.var 3)) (.lit (.int 92)))]) [.aug 3 .add (.lit (.int 1))] []::r) [.val (.bytes l),.val (.int p),.val (.int l.length),.val (.int p),.unset,.unset] kb kn =
   run (den T G W (d+2)) G W r [.val (.bytes l),.val (.int p),.val (.int l.length),.val (.int q),.unset,.unset] kb kn:=by
  rcases hd:l.drop p with _ | ⟨c,t⟩
  ·exact ⟨p,[],hp,rfl,hd.symm,hd,fun r kb kn=>rf0 (ev_andF (bF (lt_no hd))) rfl⟩
  ·have h2:=drop_cons hd
   by_cases hc:c=92
   ·subst hc
    exact ⟨p+1,[92],h2.2.2,rfl,by rw [h2.2.1]; rfl,h2.2.1,fun r kb kn=>ry (Eq.trans (ev_and2 rfl (ev_cmp (ix hd) rfl rfl)) (by rw [lt_yes hd]; rfl)) (rag rfl rfl)⟩
   ·exact ⟨p,[],hp,rfl,hd.symm,hd.trans (skip_no hc).symm,fun r kb kn=>rf0 (Eq.trans (ev_and2 rfl (ev_cmp (r:=false) (ix hd) rfl (by show Res.ok (c == 92)=_; rw [beq_eq_false_iff_ne.2 hc]))) (bF (Bool.and_false _))) rfl⟩
 obtain ⟨q,v,hq,hv,hpq,hdq,he⟩:=hf
 refine (he _ _ _).trans (rw0 ?_)
 rw [← hdq]
 refine scan_do (l:=l) (O:=ofPR l) (σ:=Unit) (fun z _=>[.val (.bytes l),.val (.int p),.val (.int l.length),.val (.int z),.unset,.unset]) isAtomC rfl (fun z a n hd=>?_) (fun z a n x t hd=>⟨(),?_⟩) W q () hq fun u r z _ hu hz hr hl=>?_
 ·exact wh_n (ev_andF (bF (lt_no hd))) rfl
 ·exact wh_b (Eq.trans (ev_and2 rfl (Eq.trans (to_call1 (ix hd)) (d_is_atom_char L (d+1) x))) (by rw [lt_yes hd]; rfl)) (rag rfl rfl)
 rcases r with _ | ⟨c,t⟩
 ·exact ry (bT (eq_yes hr hl)) (rr rfl)
 refine rf0 (bF (eq_no hr)) (rs (ev_ahd (u:=v++u) rfl rfl rfl (by rw [hpq,hu,List.append_assoc]) (by rw [List.length_append,← Nat.add_assoc,hv,hz])) ?_)
 have hwD:∀ x∈ahead (l.drop p) (c::t),0≤x∧x<256:=fun x hx=>hD x (List.drop_subset _ _ (List.take_subset _ _ hx))
 show _=ofPR l (wordEnd (ahead (l.drop p) (c::t)) (c::t))
 generalize ahead (l.drop p) (c::t)=w at hwD
 refine rq L rfl (bd (ev_and2 rfl rfl) ?_) fun _=>ri0 (bd (ev_and2 rfl (ev_cmp (Eq.trans (to_call1 rfl) (d_upper L (d+1) w hwD)) rfl rfl)) ?_) (fun _=>rr (okp (pos_at hr hl))) fun _=>ri0 (bd (Eq.trans (to_call1 rfl) (d_all_digits L d w)) Iff.rfl) (fun h=>rs (Eq.trans (to_call1 rfl) (d_digits_value L (d+1) w ?_)) (rq L rfl (ev_cmp rfl L.g0 rfl) fun _=>rr (okp (pos_at hr hl)))) fun _=>rr (okp (pos_at hr hl))
 ·simp only [Bool.and_eq_true,Bool.not_eq_true',beq_eq_false_iff_ne]
 ·rw [Bool.and_eq_true,beq_iff_eq,beq_iff_eq]; exact and_congr_left fun _=>Int.ofNat_inj
 ·unfold allDig at h; rw [Bool.and_eq_true,List.all_eq_true] at h; exact h.2
noncomputable def lstB:List CS:=[.assign 5 (.call 21 [(.var 0),(.var 1),(.bin .sub (.var 2) (.lit (.int 1)))]),.if_ (.cmp .is_ (.var 5) (.lit .none)) [.ret (.lit .none)] [],.app 4 (.idx (.var 5) (.lit (.int 0))),.assign 1 (.idx (.var 5) (.lit (.int 1))),.if_ (.cmp .ge (.var 1) (.var 3)) [.ret (.lit .none)] [],.if_ (.cmp .eq (.idx (.var 0) (.var 1)) (.lit (.int 41))) [.frz 4,.ret (.tup [(.tup [(.lit (.str [108,105,115,116])),(.var 4)]),(.bin .add (.var 1) (.lit (.int 1)))])] [],.expr (.call 0 [(.cmp .eq (.idx (.var 0) (.var 1)) (.lit (.int 32)))]),.aug 1 .add (.lit (.int 1))]
noncomputable def Eats (v:List Int→PR PV):Prop:=∀ x a r,v x=.ok a r→∃ u,u≠[]∧x=u++r
theorem lst_loop (d:Nat) (l:List Int) (hlim:l.length<lim) (dep:Nat) (v:List Int→PR PV) (hv:∀ p:Nat,p≤l.length→den T G W (d+1) 21 [.bytes l,.int p,.int dep]=ofPR l (v (l.drop p))) (hE:Eats v) (kb k:List Slot→Res PV) :
  ∀ (n q:Nat) (acc:List PV) (s:Slot),q≤l.length→acc.length≤q →
  wh (den T G W (d+1)) G W (.lit (.bool true)) lstB n [.val (.bytes l),.val (.int q),.val (.int ((dep:Int)+1)),.val (.int l.length),.own acc,s] kb k=ofPR l (itemsN v n acc (l.drop q))
 | 0,q,acc,s,_,_=>rfl
 | n+1,q,acc,s,hq,ha=>by
  refine wh_y rfl (rc (out_pr l).toOut0 (out_pr l) (w:=fun v r=>.tuple [v,.int ((l.length:Int) - (r.length:Int))]) (X:=v (l.drop q)) ?_ rfl fun a r e=>?_)
  ·show den T G W (d+1) 21 [.bytes l,.int q,.int ((dep:Int)+1 - 1)]=_
   rw [Int.add_sub_cancel]; exact hv q hq
  ·obtain ⟨u,hu0,hu⟩:=hE _ _ _ e
   obtain ⟨z,hz,hzr,hd,hzl⟩:=rest_at hu hq
   have hqz:q<z:=by rw [← hz]; exact Nat.lt_add_of_pos_right (List.length_pos_iff.2 hu0)
   refine rap rfl rfl (Nat.lt_of_le_of_lt (Nat.le_trans ha hq) hlim) (rs (v:=.int (z:Int)) (congrArg (fun z=>Res.ok (PV.int z)) hzr) ?_)
   rcases r with _ | ⟨c,t⟩
   ·exact re0 hd rfl
   have h2:=drop_cons hd
   refine re1 hd rfl (ri0 (P:=c=41) (ev_cmp (ix hd) rfl rfl) (fun _=>rfz rfl (rr (okp (pos_tl hd)))) fun _=>rq L (P:=c=32) rfl (ev_cmp (ix hd) rfl rfl) fun _=>rag rfl (r0 ?_))
   exact (lst_loop d l hlim dep v hv hE kb k n (z+1) (acc++[a]) _ h2.2.2 (len_app ha (Nat.lt_succ_of_lt hqz))).trans (congrArg (fun x=>ofPR l (itemsN v n (acc++[a]) x)) h2.2.1)
theorem d_read_list (d:Nat) (l:List Int) (hlim:l.length<lim) (dep:Nat) (v:List Int→PR PV) (hv:∀ p:Nat,p≤l.length→den T G W (d+1) 21 [.bytes l,.int p,.int dep]=ofPR l (v (l.drop p))) (hE:Eats v)
  (q:Nat) (hq:q≤l.length):den T G W (d+2) 17 [.bytes l,.int q,.int ((dep:Int)+1)]=ofPR l (lstP W v (l.drop q)):=by
 rw [den_code L.t17 rfl]
 refine go (rn (need_y L (bT (decide_eq_true (Int.lt_add_one_of_le (Int.natCast_nonneg dep))))) (rs rfl (row0 ?_)))
 rcases hd:l.drop q with _ | ⟨c,t⟩
 ·exact re0 hd rfl
 refine re1 hd rfl (ri0 (P:=c=41) (ev_cmp (ix hd) rfl rfl) (fun _=>rfz rfl (rr (okp (pos_tl hd)))) fun _=>rw0 ?_)
 exact (lst_loop L d l hlim dep v hv hE _ _ W q [] .unset hq (Nat.zero_le _)).trans (congrArg (fun x=>ofPR l (itemsN v W [] x)) hd)
theorem d_read_list0 (d:Nat) (l:List Int) (q:Nat):den T G W (d+2) 17 [.bytes l,.int q,.int 0]=.exc:=by
 rw [den_code L.t17 rfl]
 exact congrArg outS (run_exc (need_n L rfl))
omit L in
theorem eats_quo:∀ (n:Nat) (acc x:List Int) (a:PV) (r:List Int),quoN n acc x=.ok a r→∃ u,u≠[]∧x=u++r
 | 0,_,_,_,_,h=>by cases h
 | n+1,acc,[],a,r,h=>by simp [quoN] at h
 | n+1,acc,c::t,a,r,h=>by
  by_cases c34:c=34
  ·subst c34; rw [quoN_34] at h; cases h; exact ⟨[34],by simp,rfl⟩
  ·by_cases c92:c=92
   ·subst c92
    cases t with
    | nil=>rw [quoN_92] at h; cases h
    | cons y u =>
     rw [quoN_92y] at h
     split at h
     ·obtain ⟨w,_,e⟩:=eats_quo n _ _ _ _ h
      exact ⟨92::y::w,by simp,by rw [e]; rfl⟩
     ·cases h
   ·rw [quoN_c _ _ _ _ c34 c92] at h
    split at h
    ·obtain ⟨w,_,e⟩:=eats_quo n _ _ _ _ h
     exact ⟨c::w,by simp,by rw [e]; rfl⟩
    ·cases h
omit L in
theorem eats_word:Eats (wordP W):=by
 intro x a r h
 unfold wordP at h
 split at h
 ·cases h
 ·cases h
 ·rename_i c t hs
  obtain ⟨u,hu⟩:=scanN_len _ _ _ _ hs
  have hx:∃ v,x=v++(c::t):=by
   cases x with
   | nil=>exact ⟨u,hu⟩
   | cons b y =>
    by_cases hb:b=92
    ·subst hb; exact ⟨92::u,by rw [show y=u++c::t from hu]; rfl⟩
    ·refine ⟨u,?_⟩
     have:skip92 (b::y)=b::y:=by unfold skip92; split; (rename_i heq; cases heq; exact absurd rfl hb); rfl
     rw [this] at hu; exact hu
  obtain ⟨v,hv⟩:=hx
  have ha:=ahead_app hv
  unfold wordEnd at h
  rw [ha] at h
  by_cases hne:v≠[]∧v≠[92]
  ·have hr:r=c::t:=by
    rw [if_pos hne] at h
    split at h
    ·cases h; rfl
    ·split at h
     ·split at h
      ·cases h; rfl
      ·cases h
     ·cases h; rfl
   exact ⟨v,hne.1,by rw [hr]; exact hv⟩
  ·rw [if_neg hne] at h; cases h
omit L in
theorem eats_lit {x:List Int} {a:PV} {r:List Int} (h:litP W x=.ok a r):∃ u,u≠[]∧x=u++r:=by
 unfold litP at h
 split at h
 ·cases h
 ·rename_i n q hs
  obtain ⟨⟨u,hu⟩,_⟩:=litN_suf _ _ _ _ _ (by lia) hs
  split at h
  ·split at h
   ·split at h
    ·split at h
     ·cases h
     ·split at h
      ·cases h
      ·rename_i h5
       cases h
       simp only [not_or,Nat.not_lt,List.length_take,List.length_drop] at h5
       refine ⟨u++q.take (3+n.toNat),?_,?_⟩
       ·intro e
        have:(u++q.take (3+n.toNat)).length=0:=by rw [e]; rfl
        rw [List.length_append,List.length_take] at this; lia
       ·rw [List.append_assoc,List.take_append_drop]; exact hu
    ·cases h
   ·cases h
  ·cases h
omit L in
theorem eats_items (v:List Int→PR PV) (hE:Eats v):∀ (n:Nat) (acc:List PV) (x:List Int) (a:PV) (r:List Int),itemsN v n acc x=.ok a r→∃ u,u≠[]∧x=u++r
 | 0,_,_,_,_,h=>by cases h
 | n+1,acc,x,a,r,h=>by
  rw [itemsN] at h
  cases hv:v x with
  | none=>rw [hv] at h; cases h
  | err=>rw [hv] at h; cases h
  | stuck=>rw [hv] at h; cases h
  | ok b y =>
   rw [hv] at h
   obtain ⟨u,hu0,hu⟩:=hE _ _ _ hv
   simp only [PR.bind] at h
   cases y with
   | nil=>cases h
   | cons c t =>
    simp only at h
    split at h
    ·cases h; exact ⟨u++[c],by simp,by rw [hu]; simp⟩
    ·split at h
     ·obtain ⟨w,_,e⟩:=eats_items v hE n _ _ _ _ h
      exact ⟨u++c::w,by simp,by rw [hu,e]; simp⟩
     ·cases h
omit L in
theorem valP_nil (dep:Nat):valP W dep []=.none:=by cases dep <;> rfl
omit L in
theorem valP_cons (dep:Nat) (c:Int) (t:List Int):valP W dep (c::t)=if c=40 then (match dep with | 0=>.err | dep+1=>lstP W (valP W dep) t) else if c=34 then quoN W [] t else if c=123 then litP W t else wordP W (c::t):=by cases dep <;> rfl
omit L in
theorem eats_val:∀ dep:Nat,Eats (valP W dep)
 | dep,[],a,r,h=>by rw [valP_nil] at h; cases h
 | dep,c::t,a,r,h=>by
  rw [valP_cons] at h
  split at h
  ·cases dep with
   | zero=>cases h
   | succ dep =>
    simp only at h
    unfold lstP at h
    cases t with
    | nil=>cases h
    | cons b y =>
     simp only at h
     split at h
     ·cases h; exact ⟨[c,b],by simp,rfl⟩
     ·obtain ⟨u,_,e⟩:=eats_items _ (eats_val dep) _ _ _ _ _ h
      exact ⟨c::u,by simp,by rw [e]; rfl⟩
  ·split at h
   ·obtain ⟨u,_,e⟩:=eats_quo _ _ _ _ _ h
    exact ⟨c::u,by simp,by rw [e]; rfl⟩
   ·split at h
    ·obtain ⟨u,_,e⟩:=eats_lit h
     exact ⟨c::u,by simp,by rw [e]; rfl⟩
    ·exact eats_word _ _ _ h
theorem val_head (d:Nat) (l:List Int) (hlim:l.length<lim) (hD:∀ x∈l,0≤x∧x<256) (dep:Nat) (p:Nat) (hp:p≤l.length)
  (hl:∀ t,l.drop p=40::t→den T G W (d+3) 17 [.bytes l,.int ((p:Int)+1),.int dep]=ofPR l (match dep with | 0=>.err | dep+1=>lstP W (valP W dep) t)) :
  den T G W (d+4) 21 [.bytes l,.int p,.int dep]=ofPR l (valP W dep (l.drop p)):=by
 rw [den_code L.t21 rfl]
 refine go ?_
 rcases hd:l.drop p with _ | ⟨c,t⟩
 ·rw [valP_nil]; exact re0 hd rfl
 have h2:=drop_cons hd
 rw [valP_cons]
 refine re1 hd rfl (rs (ix hd) (ri0 (O:=ofPR l) rfl (fun h=>rr (hl t (h ▸ hd))) fun _=>ri0 rfl (fun _=>rr ?_) fun _=>ri0 rfl (fun _=>rr ?_) fun _=>rr ?_))
 ·exact (d_read_quoted L (d+1) l hlim (p+1) h2.2.2).trans (congrArg (fun x=>ofPR l (quoN W [] x)) h2.2.1)
 ·exact (d_read_literal L (d+1) l (p+1) h2.2.2).trans (congrArg (fun x=>ofPR l (litP W x)) h2.2.1)
 ·exact (d_read_word L d l hD p hp).trans (congrArg (fun x=>ofPR l (wordP W x)) hd)
theorem d_read_value (l:List Int) (hlim:l.length<lim) (hD:∀ x∈l,0≤x∧x<256):∀ (dep:Nat) (d:Nat) (p:Nat),p≤l.length→den T G W (d+2 * dep+4) 21 [.bytes l,.int p,.int dep]=ofPR l (valP W dep (l.drop p)):=by
 intro dep
 induction dep with
 | zero =>
  intro d p hp
  exact val_head L d l hlim hD 0 p hp fun t ht=>by
   have hl1:((p:Int)+1)=((p+1:Nat):Int):=by lia
   rw [hl1]
   exact d_read_list0 L (d+1) l (p+1)
 | succ dep ih =>
  intro d p hp
  refine val_head L (d+2 * (dep+1)) l hlim hD (dep+1) p hp fun t ht=>?_
  obtain ⟨_,g2,g3⟩:=drop_cons ht
  have hl1:((p:Int)+1)=((p+1:Nat):Int):=by lia
  have hd1:(((dep+1:Nat):Int))=(dep:Int)+1:=by lia
  rw [hl1,hd1]
  have e:d+2 * (dep+1)+3=(d+2 * dep+3)+2:=by lia
  rw [e,d_read_list L (d+2 * dep+3) l hlim dep (valP W dep) (fun q hq=>ih d q hq) (eats_val dep) (p+1) (by lia),g2]
end
end Mine
namespace Mine
section
variable {T:Nat→Option CF} {G:Nat→Res PV} {W:Nat} (L:Lib T G)
include L
noncomputable def cmdB:List CS:=[.if_ (.cmp .ge (.var 4) (.var 6)) [.ret (.lit .none)] [],.if_ (.cmp .ne (.idx (.var 0) (.var 4)) (.lit (.int 32))) [.assign 8 (.call 12 [(.var 0),(.var 4)]),.if_ (.cmp .is_ (.var 8) (.lit .none)) [.ret (.lit .none)] [],.frz 7,.ret (.tup [(.tup [(.var 3),(.call 8 [(.var 5)]),(.var 7)]),(.var 8)])] [],.assign 2 (.call 21 [(.var 0),(.bin .add (.var 4) (.lit (.int 1))),(.var 1)]),.if_ (.cmp .is_ (.var 2) (.lit .none)) [.ret (.lit .none)] [],.app 7 (.idx (.var 2) (.lit (.int 0))),.assign 4 (.idx (.var 2) (.lit (.int 1)))]
noncomputable def ofCmd (l tag name:List Int):PR (List PV)→Res PV
 | .none=>.ok .none
 | .err=>.exc
 | .stuck=>.stuck
 | .ok vs r=>.ok (.tuple [.tuple [.bytes tag,.bytes (up name),.list vs],.int ((l.length:Int) - (r.length:Int))])
omit L in
theorem out_cmd (l tag name:List Int):Out (ofCmd l tag name) (fun vs r=>.tuple [.tuple [.bytes tag,.bytes (up name),.list vs],.int ((l.length:Int) - (r.length:Int))]):=⟨⟨rfl,rfl,rfl⟩,fun _ _=>rfl,fun _ _=>rfl⟩
theorem cmd_loop (d:Nat) (l:List Int) (hlim:l.length<lim) (dep:Nat) (tag name:List Int) (hname:∀ x∈name,0≤x∧x<256) (v:List Int→PR PV) (hv:∀ p:Nat,p≤l.length→den T G W (d+2) 21 [.bytes l,.int p,.int dep]=ofPR l (v (l.drop p))) (hE:Eats v) (kb k:List Slot→Res PV) :
  ∀ (n q:Nat) (acc:List PV) (s:Slot),q≤l.length→acc.length≤q →
  wh (den T G W (d+2)) G W (.lit (.bool true)) cmdB n [.val (.bytes l),.val (.int dep),s,.val (.bytes tag),.val (.int q),.val (.bytes name),.val (.int l.length),.own acc,.unset] kb k=ofCmd l tag name (valsN v n acc (l.drop q))
 | 0,q,acc,s,_,_=>rfl
 | n+1,q,acc,s,hq,ha=>by
  refine wh_y rfl ?_
  rcases hd:l.drop q with _ | ⟨c,t⟩
  ·exact re0 hd rfl
  have h2:=drop_cons hd
  refine re1 hd rfl (rin (P:=c=32) (O:=ofCmd l tag name) (ev_cmp (ix hd) rfl rfl) (fun _=>?_) fun _=>?_)
  ·refine rc (out_cmd l tag name).toOut0 (out_pr l) (w:=fun v r=>.tuple [v,.int ((l.length:Int) - (r.length:Int))]) (X:=v t) ((hv (q+1) h2.2.2).trans (congrArg (fun x=>ofPR l (v x)) h2.2.1)) rfl fun a r e=>?_
   obtain ⟨u,hu0,hu⟩:=hE _ _ _ e
   obtain ⟨z,hz,hzr,hd',hzl⟩:=rest_at (h2.2.1.trans hu) h2.2.2
   refine rap rfl rfl (Nat.lt_of_le_of_lt (Nat.le_trans ha hq) hlim) (rs (v:=.int (z:Int)) (congrArg (fun z=>Res.ok (PV.int z)) hzr) (r0 ?_))
   exact (cmd_loop d l hlim dep tag name hname v hv hE kb k n z (acc++[a]) _ hzl (len_app ha (by rw [← hz]; exact Nat.le_add_right _ _))).trans (congrArg (fun x=>ofCmd l tag name (valsN v n (acc++[a]) x)) hd')
  ·exact rc (out_cmd l tag name).toOut0 (out_crlf l) (w:=fun _ r=>.int ((l.length:Int) - (r.length:Int))) (X:=crlfP (c::t)) ((d_read_crlf L d l q hq).trans (congrArg (fun x=>ofCrlf l (crlfP x)) hd)) rfl fun _ r e=>rfz rfl (rr (tup2 (nm rfl (Eq.trans (to_call1 rfl) (d_upper L (d+1) name hname)) rfl) rfl))
theorem d_read_command (l:List Int) (hlim:l.length<lim) (hD:∀ x∈l,0≤x∧x<256) (dep d:Nat):den T G W (d+2 * dep+5) 28 [.bytes l,.int dep]=ofPR l (cmdP W dep l):=by
 rw [den_code L.t28 rfl]
 refine go (rc (out_pr l).toOut0 (out_run l) (w:=fun v r=>.tuple [.bytes v,.int ((l.length:Int) - (r.length:Int))]) (d_read_run L (d+2 * dep+1) l 0 (Nat.zero_le _) false) rfl fun tag r e=>?_)
 obtain ⟨hu,c,t,rfl⟩:=run_ok e
 obtain ⟨z,hz,hzr,hd,hzl⟩:=rest_at (q:=0) hu (Nat.zero_le _)
 have h2:=drop_cons hd
 refine rs rfl (rs (v:=.int (z:Int)) (congrArg (fun z=>Res.ok (PV.int z)) hzr) (rq L (P:=c=32) rfl (ev_cmp (ix hd) rfl rfl) fun _=>rc (out_pr l).toOut0 (out_run l) (w:=fun v r=>.tuple [.bytes v,.int ((l.length:Int) - (r.length:Int))]) (X:=runP W isLet t) ((d_read_run L (d+2 * dep+1) l (z+1) h2.2.2 true).trans (congrArg (fun x=>ofRun l (runP W isLet x)) h2.2.1)) rfl fun name r2 e2=>?_))
 have hn:l.drop (z+1)=name++r2:=h2.2.1.trans (run_ok e2).1
 obtain ⟨y,hy,hyr,hd2,hyl⟩:=rest_at hn h2.2.2
 refine rs rfl (rs (v:=.int (y:Int)) (congrArg (fun z=>Res.ok (PV.int z)) hyr) (rs rfl (row0 (rw0 ((cmd_loop L (d+2 * dep+2) l hlim dep tag name (fun x hx=>hD x (List.drop_subset _ _ (by rw [hn]; exact List.mem_append_left _ hx))) (valP W dep) (fun p hp=>d_read_value L l hlim hD dep d p hp) (eats_val dep) _ _ W y [] _ hyl (Nat.zero_le _)).trans ?_)))))
 rw [hd2]
 cases valsN (valP W dep) W [] r2 <;> rfl
end
end Mine
namespace Mine
noncomputable def txtC (c:Int):Bool:=decide (c≠10) && decide (c≠13) && decide (c≠0)
section
variable {T:Nat→Option CF} {G:Nat→Res PV} {W:Nat} (L:Lib T G)
include L
noncomputable def textF (x r:List Int):PR (List Int):=match r with
 | []=>(match x with
  | []=>.none
  | c::_=>if c=91 then .err else .none)
 | c::t =>
  if c=13 then
   match ahead x (c::t) with
   | []=>.err
   | a::u=>if a=91 then .err else (crlfP (c::t)).bind fun _ r=>.ok (a::u) r
  else .err
omit L in
theorem textP_eq (W:Nat) (x:List Int):textP W x=onS (scanN txtC W x) (textF x):=by
 unfold textP
 rw [show (fun c:Int=>decide (c≠10) && decide (c≠13) && decide (c≠0))=txtC from rfl]
 rcases scanN txtC W x with _ | _ | ⟨c,t⟩ <;> rfl
omit L in
theorem txt_eq {x:Int}:(true && (!decide (x=10) && (!decide (x=13) && !decide (x=0))))=txtC x:=by
 unfold txtC; rw [Bool.true_and,decide_not,decide_not,decide_not,Bool.and_assoc]
theorem d_read_text (d:Nat) (l:List Int) (p:Nat) (hp:p≤l.length):den T G W (d+3) 24 [.bytes l,.int p]=ofRun l (textP W (l.drop p)):=by
 rw [den_code L.t24 rfl,textP_eq]
 refine go (rs rfl (rs rfl (rw0 ?_)))
 refine scan_do (l:=l) (O:=ofRun l) (σ:=Unit) (fun z _=>[.val (.bytes l),.val (.int p),.val (.int l.length),.val (.int z),.unset,.unset]) txtC rfl (fun z a n hd=>?_) (fun z a n x t hd=>⟨(),?_⟩) W p () hp fun u r z _ hu hz hr hl=>?_
 ·exact wh_n (ev_andF (bF (lt_no hd))) rfl
 ·exact wh_b (Eq.trans (ev_andC rfl (ev_and3 (ev_cmp (ix hd) rfl rfl) (ev_cmp (ix hd) rfl rfl) (ev_cmp (ix hd) rfl rfl))) (bE (by rw [lt_yes hd]; exact txt_eq))) (rag rfl rfl)
 have ha:=ahead_app hu
 rcases r with _ | ⟨c,t⟩
 ·refine rf0 (bF (lt_no hr)) (rs (v:=.bytes u) (Eq.trans (ev_ahd rfl rfl rfl hu hz) (by rw [ha])) ?_)
  rw [hu]
  rcases u with _ | ⟨a,y⟩
  ·exact rf rfl (rf0 (bF (lt_no hr)) (r0 (ry (bT (eq_yes hr hl)) (rr rfl))))
  ·exact ry (bT (decide_eq_true (Int.natCast_pos.2 (Nat.succ_pos _)))) (rqn L (P:=a=91) (O:=ofRun l) rfl rfl fun _=>r0 (ry (bT (eq_yes hr hl)) (rr rfl)))
 ·refine ry (bT (lt_yes hr)) (rq L (P:=c=13) (O:=ofRun l) rfl (ev_cmp (ix hr) rfl rfl) fun _=>r0 (rs (v:=.bytes u) (Eq.trans (ev_ahd rfl rfl rfl hu hz) (by rw [ha])) ?_))
  rw [ha]
  rcases u with _ | ⟨a,y⟩
  ·exact rf rfl (ry (bT (lt_yes hr)) rfl)
  ·exact ry (bT (decide_eq_true (Int.natCast_pos.2 (Nat.succ_pos _)))) (rqn L (P:=a=91) (O:=ofRun l) rfl rfl fun _=>r0 (rf0 (bF (eq_no hr)) (rc (out_run l).toOut0 (out_crlf l) (w:=fun _ r=>.int ((l.length:Int) - (r.length:Int))) (X:=crlfP (c::t)) ((d_read_crlf L d l z hl).trans (congrArg (fun x=>ofCrlf l (crlfP x)) hr)) rfl fun _ r e=>rr rfl)))
noncomputable def optV:Option (List Int)→PV
 | none=>.none
 | some w=>.bytes w
noncomputable def stB:List CS:=[.assign 3 (.len (.var 2)),.assign 4 (.slc (.var 0) (some (.var 1)) (some (.bin .add (.bin .add (.var 1) (.var 3)) (.lit (.int 1))))),.if_ (.and_ [(.cmp .eq (.len (.var 4)) (.bin .add (.var 3) (.lit (.int 1)))),(.cmp .eq (.call 8 [(.var 4)]) (.bin .add (.var 2) (.lit (.bytes [32]))))]) [.ret (.var 2)] []]
theorem st_loop (d:Nat) (l:List Int) (hD:∀ x∈l,0≤x∧x<256) (p:Nat) (kb:List Slot→Res PV):∀ (ws:List (List Int)) (s2 s3 s4:Slot),(∀ w∈ws,w.length≤10) →
  fr (den T G W (d+1)) G W 2 stB (ws.map PV.bytes) [.val (.bytes l),.val (.int p),s2,s3,s4] kb kN=.ok (optV (ws.find? fun w=>decide (((l.drop p).take (w.length+1)).length=w.length+1) && decide (up ((l.drop p).take (w.length+1))=w++[32])))
 | [],_,_,_,_=>rfl
 | w::ws,s2,s3,s4,hw=>by
  refine fr_cons (rs rfl (rs (ev_cut (q:=p) (k:=w.length+1) rfl rfl rfl) ?_))
  have hu:=d_upper (W:=W) L d ((l.drop p).take (w.length+1)) fun y hy=>hD y (List.drop_subset _ _ (List.take_subset _ _ hy))
  have ih:=st_loop d l hD p kb ws (.val (.bytes w)) (.val (.int w.length)) (.val (.bytes ((l.drop p).take (w.length+1)))) fun x hx=>hw x (List.mem_cons_of_mem _ hx)
  have hz:binP .add (.bytes w) (.bytes [32])=.ok (.bytes (w++[32])):=if_pos (Nat.le_trans (Nat.succ_le_succ (hw w (List.mem_cons_self ..))) (show 11≤lim by decide))
  refine (rib (p:=decide (((l.drop p).take (w.length+1)).length=w.length+1) && decide (up ((l.drop p).take (w.length+1))=w++[32])) (Eq.trans (ev_and2 rfl (ev_cmp (Eq.trans (to_call1 rfl) hu) (ev_bin (R:=.ok (.bytes (w++[32]))) rfl rfl hz) rfl)) (bE ?_)) (rr rfl) (r0 ih)).trans ?_
  ·rw [Bool.eq_iff_iff,Bool.and_eq_true,Bool.and_eq_true,beq_iff_eq,beq_iff_eq,decide_eq_true_iff,decide_eq_true_iff]; exact and_congr_left fun _=>Int.ofNat_inj
  ·rw [List.find?_cons]
   cases decide (((l.drop p).take (w.length+1)).length=w.length+1) && decide (up ((l.drop p).take (w.length+1))=w++[32]) <;> rfl
theorem d_status_word (d:Nat) (l:List Int) (hD:∀ x∈l,0≤x∧x<256) (p:Nat) (hp:p≤l.length):den T G W (d+2) 25 [.bytes l,.int p]=.ok (optV (statP (l.drop p))):=by
 rw [den_code L.t25 rfl]
 exact go (rfo (vs:=statuses.map PV.bytes) L.g1 rfl (st_loop L d l hD p kS statuses .unset .unset .unset (by decide)))
end
end Mine
namespace Mine
theorem memD_bytes (n:Nat) (x:List Int):∀ l:List (List Int),memD n (.bytes x) (l.map PV.bytes)=some (decide (x∈l))
 | []=>rfl
 | a::r=>by
  rw [List.map_cons,memD,memD_bytes n x r]
  have:eqD n (.bytes a) (.bytes x)=some (a == x):=by cases n <;> rfl
  rw [this]
  simp only
  congr 1
  rw [Bool.eq_iff_iff,Bool.or_eq_true,beq_iff_eq,decide_eq_true_iff,decide_eq_true_iff,List.mem_cons]
  exact ⟨fun h=>h.imp Eq.symm id,fun h=>h.imp Eq.symm id⟩
noncomputable def Shape (l:List Int) (a:PV):Prop:=(∃ w,a=atomV w∧∀ x∈w,x∈l)∨(∃ s rest,a=.tuple (.str s::rest)∧s≠[97,116,111,109])
theorem quo_shape (l:List Int):∀ (n:Nat) (acc x:List Int) (a:PV) (r:List Int),quoN n acc x=.ok a r→Shape l a
 | 0,_,_,_,_,h=>by cases h
 | n+1,acc,[],a,r,h=>by simp [quoN] at h
 | n+1,acc,c::t,a,r,h=>by
  by_cases c34:c=34
  ·subst c34; rw [quoN_34] at h; cases h; exact .inr ⟨_,_,rfl,by decide⟩
  ·by_cases c92:c=92
   ·subst c92
    cases t with
    | nil=>rw [quoN_92] at h; cases h
    | cons y u =>
     rw [quoN_92y] at h
     split at h
     ·exact quo_shape l n _ _ _ _ h
     ·cases h
   ·rw [quoN_c _ _ _ _ c34 c92] at h
    split at h
    ·exact quo_shape l n _ _ _ _ h
    ·cases h
theorem items_shape (l:List Int) (v:List Int→PR PV):∀ (n:Nat) (acc:List PV) (x:List Int) (a:PV) (r:List Int),itemsN v n acc x=.ok a r→Shape l a
 | 0,_,_,_,_,h=>by cases h
 | n+1,acc,x,a,r,h=>by
  rw [itemsN] at h
  cases hv:v x with
  | none=>rw [hv] at h; cases h
  | err=>rw [hv] at h; cases h
  | stuck=>rw [hv] at h; cases h
  | ok b y =>
   rw [hv] at h
   simp only [PR.bind] at h
   cases y with
   | nil=>cases h
   | cons c t =>
    simp only at h
    split at h
    ·cases h; exact .inr ⟨_,_,rfl,by decide⟩
    ·split at h
     ·exact items_shape l v n _ _ _ _ h
     ·cases h
theorem val_shape {W:Nat} (dep:Nat) (x:List Int) (a:PV) (r:List Int) (h:valP W dep x=.ok a r):Shape x a:=by
 cases x with
 | nil=>rw [valP_nil] at h; cases h
 | cons c t =>
  rw [valP_cons] at h
  split at h
  ·cases dep with
   | zero=>cases h
   | succ dep =>
    simp only at h
    unfold lstP at h
    cases t with
    | nil=>cases h
    | cons b y =>
     simp only at h
     split at h
     ·cases h; exact .inr ⟨_,_,rfl,by decide⟩
     ·exact items_shape _ _ _ _ _ _ _ h
  ·split at h
   ·exact quo_shape _ _ _ _ _ _ h
   ·split at h
    ·unfold litP at h
     split at h
     ·cases h
     ·split at h
      ·split at h
       ·split at h
        ·split at h
         ·cases h
         ·split at h
          ·cases h
          ·cases h; exact .inr ⟨_,_,rfl,by decide⟩
        ·cases h
       ·cases h
      ·cases h
    ·unfold wordP at h
     split at h
     ·cases h
     ·cases h
     ·rename_i c' t' hs
      unfold wordEnd at h
      split at h
      ·split at h
       ·cases h; exact .inr ⟨_,_,rfl,by decide⟩
       ·split at h
        ·split at h
         ·cases h; exact .inr ⟨_,_,rfl,by decide⟩
         ·cases h
        ·cases h
         exact .inl ⟨_,rfl,fun z hz=>List.take_subset _ _ hz⟩
      ·cases h
section
variable {T:Nat→Option CF} {G:Nat→Res PV} {W:Nat} (L:Lib T G)
include L
noncomputable def codeB:List CS:=[.assign 6 (.call 21 [(.var 0),(.var 3),(.var 1)]),.if_ (.cmp .is_ (.var 6) (.lit .none)) [.ret (.lit .none)] [],.app 8 (.idx (.var 6) (.lit (.int 0))),.assign 3 (.idx (.var 6) (.lit (.int 1))),.if_ (.cmp .ge (.var 3) (.var 2)) [.ret (.lit .none)] [],.if_ (.cmp .eq (.idx (.var 0) (.var 3)) (.lit (.int 93))) [.aug 3 .add (.lit (.int 1)),.brk] [],.expr (.call 0 [(.cmp .eq (.idx (.var 0) (.var 3)) (.lit (.int 32)))]),.aug 3 .add (.lit (.int 1))]
noncomputable def stC (l:List Int) (dep q:Nat) (w:List Int) (s:Slot) (tag:List Int) (s8:Slot):List Slot:=[.val (.bytes l),.val (.int dep),.val (.int l.length),.val (.int q),.val (.bytes w),.unset,s,.val (.bytes tag),s8,.unset,.unset,.unset,.unset]
theorem code_loop (d:Nat) (l:List Int) (hlim:l.length<lim) (dep:Nat) (tag w:List Int) (v:List Int→PR PV) (hv:∀ p:Nat,p≤l.length→den T G W (d+1) 21 [.bytes l,.int p,.int dep]=ofPR l (v (l.drop p))) (hE:Eats v) {O:PR (List PV)→Res PV} (hO:Out0 O) (kb k:List Slot→Res PV)
  (hk:∀ vs (z:Nat) s,z≤l.length→k (stC l dep z w s tag (.own vs))=O (.ok vs (l.drop z))) :
  ∀ (n q:Nat) (acc:List PV) (s:Slot),q≤l.length→acc.length≤q→wh (den T G W (d+1)) G W (.lit (.bool true)) codeB n (stC l dep q w s tag (.own acc)) kb k=O (codeN v n acc (l.drop q))
 | 0,q,acc,s,_,_=>hO.s.symm
 | n+1,q,acc,s,hq,ha=>by
  refine wh_y rfl (rc hO (out_pr l) (w:=fun v r=>.tuple [v,.int ((l.length:Int) - (r.length:Int))]) (X:=v (l.drop q)) (hv q hq) rfl fun a r e=>?_)
  obtain ⟨u,hu0,hu⟩:=hE _ _ _ e
  obtain ⟨z,hz,hzr,hd,hzl⟩:=rest_at hu hq
  have hqz:q<z:=by rw [← hz]; exact Nat.lt_add_of_pos_right (List.length_pos_iff.2 hu0)
  refine rap rfl rfl (Nat.lt_of_le_of_lt (Nat.le_trans ha hq) hlim) (rs (v:=.int (z:Int)) (congrArg (fun z=>Res.ok (PV.int z)) hzr) ?_)
  rcases r with _ | ⟨c,t⟩
  ·exact (re0 hd rfl).trans hO.n.symm
  have h2:=drop_cons hd
  refine re1 hd rfl (ri0 (P:=c=93) (ev_cmp (ix hd) rfl rfl) (fun _=>rag rfl (rbk ?_)) fun _=>rq L (P:=c=32) hO.e (ev_cmp (ix hd) rfl rfl) fun _=>rag rfl (r0 ?_))
  ·exact (hk (acc++[a]) (z+1) _ h2.2.2).trans (congrArg (fun x=>O (.ok (acc++[a]) x)) h2.2.1)
  ·exact (code_loop d l hlim dep tag w v hv hE hO kb k hk n (z+1) (acc++[a]) _ h2.2.2 (len_app ha (Nat.lt_succ_of_lt hqz))).trans (congrArg (fun x=>O (codeN v n (acc++[a]) x)) h2.2.1)
noncomputable def dataB:List CS:=[.assign 6 (.call 21 [(.var 0),(.var 3),(.var 1)]),.if_ (.cmp .is_ (.var 6) (.lit .none)) [.ret (.lit .none)] [],.if_ (.and_ [(.cmp .eq (.len (.var 5)) (.lit (.int 0))),(.cmp .eq (.idx (.idx (.var 6) (.lit (.int 0))) (.lit (.int 0))) (.lit (.str [97,116,111,109])))]) [.expr (.call 0 [(.cmp .notIn (.call 8 [(.idx (.idx (.var 6) (.lit (.int 0))) (.lit (.int 1)))]) (.glob 1))])] [],.app 5 (.idx (.var 6) (.lit (.int 0))),.assign 3 (.idx (.var 6) (.lit (.int 1))),.if_ (.cmp .ge (.var 3) (.var 2)) [.ret (.lit .none)] [],.if_ (.cmp .ne (.idx (.var 0) (.var 3)) (.lit (.int 32))) [.assign 11 (.call 12 [(.var 0),(.var 3)]),.if_ (.cmp .is_ (.var 11) (.lit .none)) [.ret (.lit .none)] [],.frz 5,.ret (.tup [(.tup [(.lit (.str [100,97,116,97])),(.var 5)]),(.var 11)])] [],.aug 3 .add (.lit (.int 1))]
noncomputable def dO (l:List Int) (X:PR (List PV)):Res PV:=ofPR l (X.bind fun vs r=>.ok (.tuple [.str [100,97,116,97],.list vs]) r)
omit L in
theorem dO0 (l:List Int):Out0 (dO l):=⟨rfl,rfl,rfl⟩
omit L in
theorem isStat_atom (w:List Int):isStat (atomV w)=decide (up w∈statuses):=rfl
omit L in
theorem isStat_other {s:List Nat} {rest:List PV} (h:s≠[97,116,111,109]):isStat (.tuple (.str s::rest))=false:=by
 show (s == [97,116,111,109] && statArg rest)=false
 rw [beq_eq_false_iff_ne.2 h]; rfl
theorem stat_if (d:Nat) {acc:List PV} {a:PV} {x l:List Int} {ρ:List Slot} {r:List CS} {kb kn:List Slot→Res PV} {A:PR (List PV)} (h5:getS ρ 5=.own acc) (h6:evE (den T G W (d+2)) G (.idx (.var 6) (.lit (.int 0))) ρ=.ok a) (hS:Shape x a) (hx:∀ y∈x,0≤y∧y<256) (k:run (den T G W (d+2)) G W r ρ kb kn=dO l A) :
  run (den T G W (d+2)) G W (.if_ (.and_ [(.cmp .eq (.len (.var 5)) (.lit (.int 0))),(.cmp .eq (.idx (.idx (.var 6) (.lit (.int 0))) (.lit (.int 0))) (.lit (.str [97,116,111,109])))]) [.expr (.call 0 [(.cmp .notIn (.call 8 [(.idx (.idx (.var 6) (.lit (.int 0))) (.lit (.int 1)))]) (.glob 1))])] []::r) ρ kb kn=dO l (if acc.isEmpty∧isStat a=true then .err else A):=by
 have e5:evE (den T G W (d+2)) G (.cmp .eq (.len (.var 5)) (.lit (.int 0))) ρ=.ok (.bool ((acc.length:Int) == 0)):=ev_cmp (by rw [xlen,h5]) rfl rfl
 rcases acc with _ | ⟨b,acc⟩
 ·rcases hS with ⟨w,rfl,hw⟩ | ⟨st,rest,rfl,hst⟩
  ·have em:memD 12 (.bytes (up w)) (statuses.map PV.bytes)=_:=memD_bytes 12 (up w) statuses
   refine Eq.trans (ry (ev_and2 e5 (ev_cmp (ev_idx h6 rfl) rfl rfl)) (rqn L (P:=up w∈statuses) (O:=dO l) rfl (ev_cmp (Eq.trans (to_call1 (ev_idx h6 rfl)) (d_upper L (d+1) w fun y hy=>hx y (hw y hy))) L.g1 (by show ofO ((memD 12 (.bytes (up w)) (statuses.map PV.bytes)).map (!·))=_; rw [em]; rfl)) fun _=>r0 k)) (congrArg (dO l) (ite_congr (propext ?_) (fun _=>rfl) fun _=>rfl))
   rw [isStat_atom,decide_eq_true_iff]; exact ⟨fun h=>⟨rfl,h⟩,fun h=>h.2⟩
  ·refine Eq.trans (rf0 (Eq.trans (ev_and2 e5 (ev_cmp (ev_idx h6 rfl) rfl rfl)) (bF ?_)) k) (congrArg (dO l) (if_neg fun h=>?_).symm)
   ·show (true && (st == [97,116,111,109]))=false
    rw [beq_eq_false_iff_ne.2 hst]; rfl
   ·rw [isStat_other hst] at h; cases h.2
 ·exact Eq.trans (rf0 (ev_andF (Eq.trans e5 (bF (beq_eq_false_iff_ne.2 fun h=>Nat.succ_ne_zero _ (Int.ofNat.inj h))))) k) (congrArg (dO l) (if_neg fun h=>by cases h.1).symm)
noncomputable def stD (l:List Int) (dep q:Nat) (tag:List Int) (acc:List PV) (s:Slot):List Slot:=[.val (.bytes l),.val (.int dep),.val (.int l.length),.val (.int q),.val .none,.own acc,s,.val (.bytes tag),.unset,.unset,.unset,.unset,.unset]
theorem data_loop (d:Nat) (l:List Int) (hlim:l.length<lim) (hD:∀ x∈l,0≤x∧x<256) (dep:Nat) (tag:List Int) (v:List Int→PR PV) (hv:∀ p:Nat,p≤l.length→den T G W (d+2) 21 [.bytes l,.int p,.int dep]=ofPR l (v (l.drop p))) (hE:Eats v) (hS:∀ x a r,v x=.ok a r→Shape x a) (kb k:List Slot→Res PV) :
  ∀ (n q:Nat) (acc:List PV) (s:Slot),q≤l.length→acc.length≤q →
  wh (den T G W (d+2)) G W (.lit (.bool true)) dataB n (stD l dep q tag acc s) kb k=dO l (dataN v n acc (l.drop q))
 | 0,q,acc,s,_,_=>rfl
 | n+1,q,acc,s,hq,ha=>by
  refine wh_y rfl (rc (dO0 l) (out_pr l) (w:=fun v r=>.tuple [v,.int ((l.length:Int) - (r.length:Int))]) (X:=v (l.drop q)) (hv q hq) rfl fun a r e=>stat_if L d rfl rfl (hS _ _ _ e) (fun y hy=>hD y (List.drop_subset _ _ hy)) ?_)
  obtain ⟨u,hu0,hu⟩:=hE _ _ _ e
  obtain ⟨z,hz,hzr,hd,hzl⟩:=rest_at hu hq
  have hqz:q<z:=by rw [← hz]; exact Nat.lt_add_of_pos_right (List.length_pos_iff.2 hu0)
  refine rap rfl rfl (Nat.lt_of_le_of_lt (Nat.le_trans ha hq) hlim) (rs (v:=.int (z:Int)) (congrArg (fun z=>Res.ok (PV.int z)) hzr) ?_)
  rcases r with _ | ⟨c,t⟩
  ·exact re0 hd rfl
  have h2:=drop_cons hd
  refine re1 hd rfl (rin (P:=c=32) (O:=dO l) (ev_cmp (ix hd) rfl rfl) (fun _=>rag rfl (r0 ?_)) fun _=>rc (dO0 l) (out_crlf l) (w:=fun _ r=>.int ((l.length:Int) - (r.length:Int))) (X:=crlfP (c::t)) ((d_read_crlf L d l z hzl).trans (congrArg (fun x=>ofCrlf l (crlfP x)) hd)) rfl fun _ r e=>rfz rfl (rr rfl))
  exact (data_loop d l hlim hD dep tag v hv hE hS kb k n (z+1) (acc++[a]) _ h2.2.2 (len_app ha (Nat.lt_succ_of_lt hqz))).trans (congrArg (fun x=>dO l (dataN v n (acc++[a]) x)) h2.2.1)
end
end Mine
namespace Mine
noncomputable def codeC:List CS:=[.aug 3 .add (.lit (.int 1)),.own 8 [],.while_ (.lit (.bool true)) codeB,.if_ (.cmp .ge (.var 3) (.var 2)) [.ret (.lit .none)] [],.expr (.call 0 [(.cmp .eq (.idx (.var 0) (.var 3)) (.lit (.int 32)))]),.aug 3 .add (.lit (.int 1))]
noncomputable def finC:List CS:=[.assign 6 (.call 24 [(.var 0),(.var 3)]),.if_ (.cmp .is_ (.var 6) (.lit .none)) [.ret (.lit .none)] [],.frz 8,.ret (.tup [(.tup [(.lit (.str [115,116,97,116,117,115])),(.var 7),(.var 4),(.var 8),(.idx (.var 6) (.lit (.int 0)))]),(.idx (.var 6) (.lit (.int 1)))])]
noncomputable def statC:List CS:=.assign 3 (.bin .add (.bin .add (.var 3) (.len (.var 4))) (.lit (.int 1)))::.assign 8 (.lit .none)::.if_ (.cmp .ge (.var 3) (.var 2)) [.ret (.lit .none)] []::.if_ (.cmp .eq (.idx (.var 0) (.var 3)) (.lit (.int 91))) codeC []::finC
noncomputable def forC:List CS:=[.assign 12 (.bin .add (.var 10) (.lit (.bytes [32]))),.if_ (.cmp .eq (.slc (.var 12) none (some (.len (.var 9)))) (.var 9)) [.ret (.lit .none)] []]
noncomputable def noC:List CS:=[.if_ (.cmp .le (.bin .sub (.var 2) (.var 3)) (.lit (.int 4))) [.assign 9 (.call 8 [(.slc (.var 0) (some (.var 3)) none)]),.for_ 10 (.glob 1) forC] [],.raise_]
noncomputable def tailC:List CS:=[.if_ (.cmp .ge (.var 3) (.var 2)) [.ret (.lit .none)] [],.expr (.call 0 [(.cmp .eq (.idx (.var 0) (.var 3)) (.lit (.int 32)))]),.aug 3 .add (.lit (.int 1)),.assign 4 (.call 25 [(.var 0),(.var 3)]),.if_ (.cmp .isNot (.var 4) (.lit .none)) statC [],.if_ (.cmp .ne (.var 7) (.lit (.bytes []))) noC [],.own 5 [],.while_ (.lit (.bool true)) dataB]
section
variable {T:Nat→Option CF} {G:Nat→Res PV} {W:Nat} (L:Lib T G)
include L
theorem fin_eq (d:Nat) (l:List Int) (dep:Nat) (tag w:List Int) (code:PV) (s6 s8:Slot) (h8:s8=.val code∨∃ vs,s8=.own vs∧code=.list vs) (q:Nat) (hq:q≤l.length) (kb kn:List Slot→Res PV) :
  run (den T G W (d+3)) G W finC (stC l dep q w s6 tag s8) kb kn=ofPR l (finP W tag w code (l.drop q)):=by
 refine rc (out_pr l).toOut0 (out_run l) (w:=fun v r=>.tuple [.bytes v,.int ((l.length:Int) - (r.length:Int))]) (X:=textP W (l.drop q)) (d_read_text L d l q hq) rfl fun t r e=>?_
 rcases h8 with rfl | ⟨vs,rfl,rfl⟩
 ·exact rn rfl (rr rfl)
 ·exact rfz rfl (rr rfl)
theorem stat_eq (l:List Int) (hlim:l.length<lim) (hD:∀ x∈l,0≤x∧x<256) (d dep:Nat) (tag w:List Int) (s6:Slot) (q:Nat) (hq:q+(w.length+1)≤l.length) (kb kn:List Slot→Res PV) :
  run (den T G W (d+2 * dep+4)) G W statC (stC l dep q w s6 tag .unset) kb kn=ofPR l (statRest W dep tag w (l.drop (q+(w.length+1)))):=by
 refine rs (v:=.int ((q+(w.length+1):Nat):Int)) rfl (rs rfl ?_)
 generalize q+(w.length+1)=q at hq
 rcases hd:l.drop q with _ | ⟨c,t⟩
 ·exact re0 hd rfl
 have h2:=drop_cons hd
 refine re1 hd rfl (ri0 (P:=c=91) (O:=ofPR l) (ev_cmp (ix hd) rfl rfl) (fun _=>rag rfl (row0 (rw0 ?_))) fun _=>?_)
 ·refine (code_loop L (d+2 * dep+3) l hlim dep tag w (valP W dep) (fun p hp=>d_read_value L l hlim hD dep d p hp) (eats_val dep) (O:=fun X=>ofPR l (X.bind (codeEnd W tag w))) ⟨rfl,rfl,rfl⟩ _ _ (fun vs z s hz=>?_) W (q+1) [] s6 h2.2.2 (Nat.zero_le _)).trans (congrArg (fun x=>ofPR l ((codeN (valP W dep) W [] x).bind (codeEnd W tag w))) h2.2.1)
  show _=ofPR l (codeEnd W tag w vs (l.drop z))
  rcases he:l.drop z with _ | ⟨c,t⟩
  ·exact re0 he rfl
  have h3:=drop_cons he
  exact re1 he rfl (rq L (P:=c=32) (O:=ofPR l) rfl (ev_cmp (ix he) rfl rfl) fun _=>rag rfl (r0 ((fin_eq L (d+2 * dep+1) l dep tag w (.list vs) s (.own vs) (.inr ⟨vs,rfl,rfl⟩) (z+1) h3.2.2 _ _).trans (congrArg (fun x=>ofPR l (finP W tag w (.list vs) x)) h3.2.1))))
 ·exact (fin_eq L (d+2 * dep+1) l dep tag w .none s6 (.val .none) (.inl rfl) q (Nat.le_of_lt h2.2.2) _ _).trans (congrArg (fun x=>ofPR l (finP W tag w .none x)) hd)
noncomputable def stN (l:List Int) (dep q:Nat) (s6:Slot) (tag:List Int) (s9 s10 s12:Slot):List Slot:=[.val (.bytes l),.val (.int dep),.val (.int l.length),.val (.int q),.val .none,.unset,s6,.val (.bytes tag),.unset,s9,s10,.unset,s12]
omit L in
theorem no_loop {F:Nat→List PV→Res PV} (l:List Int) (dep q:Nat) (tag x:List Int) (s6:Slot) (kb kn:List Slot→Res PV) (hkn:∀ ρ,kn ρ=.exc):∀ (ws:List (List Int)) (s10 s12:Slot),(∀ w∈ws,w.length≤10) →
  fr F G W 10 forC (ws.map PV.bytes) (stN l dep q s6 tag (.val (.bytes x)) s10 s12) kb kn=if ws.any (fun w=>decide ((w++[32]).take x.length=x))=true then .ok .none else .exc
 | [],_,_,_=>hkn _
 | w::ws,s10,s12,hw=>by
  have hz:binP .add (.bytes w) (.bytes [32])=.ok (.bytes (w++[32])):=if_pos (Nat.le_trans (Nat.succ_le_succ (hw w (List.mem_cons_self ..))) (show 11≤lim by decide))
  refine fr_cons (rs (ev_bin (R:=.ok (.bytes (w++[32]))) rfl rfl hz) ((rib (p:=decide ((w++[32]).take x.length=x)) (bd (ev_cmp (ev_pre rfl rfl) rfl rfl) beq_iff_eq) (rr rfl) (r0 (no_loop l dep q tag x s6 kb kn hkn ws _ _ fun y hy=>hw y (List.mem_cons_of_mem _ hy)))).trans ?_))
  rw [List.any_cons]
  cases decide ((w++[32]).take x.length=x) <;> rfl
theorem no_eq (l:List Int) (hD:∀ x∈l,0≤x∧x<256) (d dep:Nat) (tag:List Int) (s6:Slot) (q:Nat) (hq:q≤l.length) (kb kn:List Slot→Res PV) :
  run (den T G W (d+1)) G W noC (stN l dep q s6 tag .unset .unset .unset) kb kn=ofPR l (if (l.drop q).length≤4∧statuses.any (fun w=>decide ((w++[32]).take (up (l.drop q)).length=up (l.drop q)))=true then .none else .err):=by
 have e1:evE (den T G W (d+1)) G (.cmp .le (.bin .sub (.var 2) (.var 3)) (.lit (.int 4))) (stN l dep q s6 tag .unset .unset .unset)=.ok (.bool (decide ((l.drop q).length≤4))):=bd rfl (by rw [decide_eq_true_iff,List.length_drop]; omega)
 by_cases h4:(l.drop q).length≤4
 ·rw [decide_eq_true h4] at e1
  refine Eq.trans (ry e1 (rs (Eq.trans (to_call1 (ev_from rfl rfl)) (d_upper L d (l.drop q) fun y hy=>hD y (List.drop_subset _ _ hy))) (rfo (vs:=statuses.map PV.bytes) L.g1 rfl (no_loop l dep q tag (up (l.drop q)) s6 kb _ (fun _=>rfl) statuses _ _ (by decide))))) ?_
  cases statuses.any (fun w=>decide ((w++[32]).take (up (l.drop q)).length=up (l.drop q)))
  ·show ofPR l .err=_
   exact congrArg (ofPR l) (if_neg fun h=>Bool.false_ne_true h.2).symm
  ·show ofPR l .none=_
   exact congrArg (ofPR l) (if_pos ⟨h4,rfl⟩).symm
 ·rw [decide_eq_false h4] at e1
  rw [if_neg (fun h=>h4 h.1)]
  exact rf0 e1 rfl
theorem tail_eq (l:List Int) (hlim:l.length<lim) (hD:∀ x∈l,0≤x∧x<256) (d dep:Nat) (tag:List Int) (s6:Slot) (q:Nat) (hq:q≤l.length) (kb kn:List Slot→Res PV) :
  run (den T G W (d+2 * dep+4)) G W tailC [.val (.bytes l),.val (.int dep),.val (.int l.length),.val (.int q),.unset,.unset,s6,.val (.bytes tag),.unset,.unset,.unset,.unset,.unset] kb kn=ofPR l (goP W dep tag (l.drop q)):=by
 rcases hd:l.drop q with _ | ⟨c,t⟩
 ·exact re0 hd rfl
 have h2:=drop_cons hd
 refine re1 hd rfl (rq L (P:=c=32) (O:=ofPR l) rfl (ev_cmp (ix hd) rfl rfl) fun _=>rag rfl (rs ((d_status_word L (d+2 * dep+2) l hD (q+1) h2.2.2).trans (congrArg (fun x=>Res.ok (optV (statP x))) h2.2.1)) ?_))
 show _=ofPR l (match statP t with | some w=>_ | none=>_)
 rcases hs:statP t with _ | w
 ·refine rf0 rfl (ri0 (P:=tag≠[]) (O:=ofPR l) (bd rfl (by rw [Bool.not_eq_true',beq_eq_false_iff_ne])) (fun _=>?_) fun _=>row0 (rw0 ?_))
  ·exact (no_eq L l hD (d+2 * dep+3) dep tag s6 (q+1) h2.2.2 _ _).trans (by rw [h2.2.1])
  ·exact (data_loop L (d+2 * dep+2) l hlim hD dep tag (valP W dep) (fun p hp=>d_read_value L l hlim hD dep d p hp) (eats_val dep) (fun x a r h=>val_shape dep x a r h) _ _ W (q+1) [] s6 h2.2.2 (Nat.zero_le _)).trans (congrArg (fun x=>dO l (dataN (valP W dep) W [] x)) h2.2.1)
 ·have hw:w.length+1≤t.length:=by
   have:=List.find?_some hs
   rw [Bool.and_eq_true,decide_eq_true_iff,List.length_take] at this
   exact this.1 ▸ Nat.min_le_right ..
  refine ry rfl ((stat_eq L l hlim hD d dep tag w s6 (q+1) ?_ _ _).trans (congrArg (fun x=>ofPR l (statRest W dep tag w x)) ?_))
  ·rw [← h2.2.1,List.length_drop] at hw; omega
  ·rw [← h2.2.1,List.drop_drop]
omit L in
theorem ev_head {F:Nat→List PV→Res PV} {c n:Int} {t:List Int} {r:List Slot} {s:Slot}:evE F G (.and_ [(.cmp .gt (.var 2) (.lit (.int 0))),(.cmp .eq (.idx (.var 0) (.lit (.int 0))) (.lit (.int n)))]) (.val (.bytes (c::t))::s::.val (.int ((c::t).length:Int))::r)=.ok (.bool (decide (c=n))) :=
 Eq.trans (ev_and2 rfl rfl) (bE (by rw [decide_eq_true (show (0:Int)<((c::t).length:Int) from Int.natCast_pos.2 (Nat.succ_pos _))]; rfl))
theorem d_read_line (l:List Int) (hlim:l.length<lim) (hD:∀ x∈l,0≤x∧x<256) (dep d:Nat):den T G W (d+2 * dep+5) 26 [.bytes l,.int dep]=ofPR l (lineP W dep l):=by
 rw [den_code L.t26 rfl]
 refine go (rs rfl ?_)
 have road:run (den T G W (d+2 * dep+4)) G W [.assign 6 (.call 11 [(.var 0),(.lit (.int 0)),(.lit (.bool false))]),.if_ (.cmp .is_ (.var 6) (.lit .none)) [.ret (.lit .none)] [],.assign 7 (.idx (.var 6) (.lit (.int 0))),.assign 3 (.idx (.var 6) (.lit (.int 1)))] [.val (.bytes l),.val (.int dep),.val (.int l.length),.unset,.unset,.unset,.unset,.unset,.unset,.unset,.unset,.unset,.unset] kS (fun ρ=>run (den T G W (d+2 * dep+4)) G W tailC ρ kS kN)=ofPR l ((runP W isTagC l).bind (goP W dep)):=by
  refine rc (out_pr l).toOut0 (out_run l) (w:=fun v r=>.tuple [.bytes v,.int ((l.length:Int) - (r.length:Int))]) (d_read_run L (d+2 * dep+1) l 0 (Nat.zero_le _) false) rfl fun tag r e=>?_
  obtain ⟨z,hz,hzr,hd,hzl⟩:=rest_at (q:=0) (run_ok e).1 (Nat.zero_le _)
  exact rs rfl (rs (v:=.int (z:Int)) (congrArg (fun z=>Res.ok (PV.int z)) hzr) (r0 ((tail_eq L l hlim hD d dep tag _ z hzl _ _).trans (congrArg (fun x=>ofPR l (goP W dep tag x)) hd))))
 rcases l with _ | ⟨c,t⟩
 ·exact rf0 (ev_andF rfl) (rf (ev_andF rfl) road)
 refine ri0 (P:=c=43) (O:=ofPR (c::t)) ev_head (fun _=>?_) fun _=>ri (P:=c=42) (O:=ofPR (c::t)) ev_head (fun _=>rs rfl (rs rfl (r0 (tail_eq L (c::t) hlim hD d dep [] .unset 1 (Nat.succ_le_succ (Nat.zero_le _)) _ _)))) fun _=>road
 rcases t with _ | ⟨b,u⟩
 ·exact ry rfl (rr rfl)
 ·exact rf0 (bF (decide_eq_false fun h=>Nat.not_succ_le_zero _ (Nat.le_of_succ_le_succ (Nat.le_of_succ_le_succ (Int.ofNat_lt.1 h))))) (rq L (P:=b=32) (O:=ofPR (c::b::u)) rfl rfl fun _=>rc (out_pr (c::b::u)).toOut0 (out_run (c::b::u)) (w:=fun v r=>.tuple [.bytes v,.int (((c::b::u).length:Int) - (r.length:Int))]) (X:=textP W u) (d_read_text L (d+2 * dep+1) (c::b::u) 2 (Nat.succ_le_succ (Nat.succ_le_succ (Nat.zero_le _)))) rfl fun tx r e=>rr rfl)
end
end Mine
namespace Mine
noncomputable def PExt {α:Type} (y:List Int) (a b:PR α):Prop:=match a with
 | .none=>True
 | .err=>b=.err
 | .stuck=>b=.stuck
 | .ok v r=>b=.ok v (r++y)
noncomputable def Mono {α:Type} (W:Nat) (p:List Int→PR α):Prop:=∀ x y,(x++y).length<W→PExt y (p x) (p (x++y))
noncomputable def Suf {α:Type} (p:List Int→PR α):Prop:=∀ x a r,p x=.ok a r→r.length≤x.length
theorem PExt.bind {α β:Type} {y:List Int} {a b:PR α} {f:α→List Int→PR β} (h:PExt y a b) (hf:∀ v r,a=.ok v r→PExt y (f v r) (f v (r++y))):PExt y (a.bind f) (b.bind f):=by
 cases a with
 | none=>trivial
 | err=>cases h; rfl
 | stuck=>cases h; rfl
 | ok v r=>cases h; exact hf v r rfl
theorem Mono.bind {α β:Type} {W:Nat} {p:List Int→PR α} {f:α→List Int→PR β} (hp:Mono W p) (hs:Suf p) (hf:∀ v,Mono W (f v)):Mono W (fun x=>(p x).bind f):=by
 intro x y hl
 refine PExt.bind (hp x y hl) fun v r e=>hf v r y ?_
 have:=hs x v r e
 rw [List.length_append] at hl ⊢; lia
theorem scanN_none (p:Int→Bool) (y:List Int):∀ (n:Nat) (x:List Int),scanN p n x=none→scanN p n (x++y)=none
 | 0,_,_=>rfl
 | n+1,[],h=>by simp [scanN] at h
 | n+1,c::t,h=>by
  rw [scanN] at h
  rw [List.cons_append,scanN]
  split at h
  ·rename_i hc; rw [if_pos hc]; exact scanN_none p y n t h
  ·cases h
theorem scanN_some (p:Int→Bool) (y:List Int):∀ (n:Nat) (x:List Int) (c:Int) (t:List Int),scanN p n x=some (c::t)→scanN p n (x++y)=some (c::t++y)
 | 0,_,_,_,h=>by cases h
 | n+1,[],_,_,h=>by simp [scanN] at h
 | n+1,a::u,c,t,h=>by
  rw [scanN] at h
  rw [List.cons_append,scanN]
  split at h
  ·rename_i hc; rw [if_pos hc]; exact scanN_some p y n u c t h
  ·rename_i hc; rw [if_neg hc]; cases h; rfl
theorem scanN_fuel (p:Int→Bool):∀ (n:Nat) (x:List Int),x.length<n→scanN p n x≠none
 | 0,x,h=>by lia
 | n+1,[],_=>by simp [scanN]
 | n+1,c::t,h=>by
  rw [scanN]
  split
  ·exact scanN_fuel p n t (by simpa using h)
  ·simp
theorem ahead_ext {x r y u:List Int} (h:x=u++r):ahead (x++y) (r++y)=ahead x r:=by
 rw [ahead_app h]
 exact ahead_app (by rw [h,List.append_assoc])
theorem mono_run (W:Nat) (p:Int→Bool):Mono W (runP W p):=by
 intro x y hl
 unfold runP
 cases hs:scanN p W x with
 | none=>rw [scanN_none p y W x hs]; rfl
 | some r =>
  cases r with
  | nil=>trivial
  | cons c t =>
   rw [scanN_some p y W x c t hs]
   obtain ⟨u,hu⟩:=scanN_len _ _ _ _ hs
   simp only [List.cons_append]
   by_cases hlt:(c::t).length<x.length
   ·have hlt2:(c::(t++y)).length<(x++y).length:=by simp only [List.length_cons,List.length_append] at hlt ⊢; lia
    rw [if_pos hlt,if_pos hlt2]
    have:=ahead_ext (y:=y) hu
    rw [List.cons_append] at this
    rw [this]
    rfl
   ·have hlt2:¬ (c::(t++y)).length<(x++y).length:=by simp only [List.length_cons,List.length_append] at hlt ⊢; lia
    rw [if_neg hlt,if_neg hlt2]; rfl
theorem suf_run (W:Nat) (p:Int→Bool):Suf (runP W p):=by
 intro x a r h
 unfold runP at h
 split at h
 ·cases h
 ·cases h
 ·split at h
  ·rename_i hlt; cases h; lia
  ·cases h
theorem mono_crlf (W:Nat):Mono W crlfP:=by
 intro x y _
 match x with
 | []=>exact trivial
 | [a] =>
  by_cases ha:a=13
  ·subst ha; exact trivial
  ·have h1:crlfP [a]=.err:=by simp [crlfP,ha]
   have h2:crlfP ([a]++y)=.err:=by
    cases y with
    | nil=>exact h1
    | cons b t=>simp [crlfP,ha]
   rw [h1,h2]; rfl
 | a::b::t =>
  have e:∀ z,crlfP (a::b::z)=if a=13∧b=10 then .ok () z else .err:=by intro z; simp [crlfP]
  rw [List.cons_append,List.cons_append,e,e]
  split <;> rfl
theorem mono_quo (y:List Int):∀ (n:Nat) (acc x:List Int),PExt y (quoN n acc x) (quoN n acc (x++y))
 | 0,_,_=>rfl
 | n+1,acc,[]=>by simp only [quoN,PExt]
 | n+1,acc,c::t=>by
  rw [List.cons_append]
  by_cases c34:c=34
  ·subst c34; rw [quoN_34,quoN_34]; rfl
  ·by_cases c92:c=92
   ·subst c92
    cases t with
    | nil=>rw [quoN_92]; trivial
    | cons b u =>
     rw [List.cons_append,quoN_92y,quoN_92y]
     split
     ·exact mono_quo y n _ u
     ·rfl
   ·rw [quoN_c _ _ _ _ c34 c92,quoN_c _ _ _ _ c34 c92]
    split
    ·exact mono_quo y n _ t
    ·rfl
theorem litN_some (y:List Int):∀ (n:Nat) (v:Int) (x:List Int) (v' c:Int) (t:List Int),litN n v x=some (v',c::t)→litN n v (x++y)=some (v',c::t++y)
 | 0,_,_,_,_,_,h=>by cases h
 | n+1,_,[],_,_,_,h=>by simp [litN] at h
 | n+1,v,a::u,v',c,t,h=>by
  rw [litN] at h
  rw [List.cons_append,litN]
  split at h
  ·rename_i hc; rw [if_pos hc]; exact litN_some y n _ u v' c t h
  ·rename_i hc; rw [if_neg hc]; cases h; rfl
theorem litN_none (y:List Int):∀ (n:Nat) (v:Int) (x:List Int),litN n v x=none→litN n v (x++y)=none
 | 0,_,_,_=>rfl
 | n+1,_,[],h=>by simp [litN] at h
 | n+1,v,c::t,h=>by
  rw [litN] at h
  rw [List.cons_append,litN]
  split at h
  ·rename_i hc; rw [if_pos hc]; exact litN_none y n _ t h
  ·cases h
theorem litN_big:∀ (n:Nat) (x:List Int),x.length<n→∃ r,litN n 4294967296 x=some (4294967296,r)
 | 0,x,h=>by lia
 | n+1,[],_=>⟨[],by simp [litN]⟩
 | n+1,c::t,h=>by
  rw [litN]
  split
  ·rename_i hc
   simp only [isDig,Bool.and_eq_true,decide_eq_true_iff] at hc
   have:clamp (4294967296 * 10+(c - 48))=4294967296:=by unfold clamp; rw [if_pos (by lia)]
   rw [this]
   exact litN_big n t (by simpa using h)
  ·exact ⟨_,rfl⟩
theorem litN_le:∀ (n:Nat) (v:Int) (x:List Int) (v':Int) (r:List Int),v≤4294967296→litN n v x=some (v',r)→v'≤4294967296
 | 0,_,_,_,_,_,h=>by cases h
 | n+1,v,[],v',r,hv,h=>by simp [litN] at h; lia
 | n+1,v,c::t,v',r,hv,h=>by
  rw [litN] at h
  split at h
  ·exact litN_le n _ t v' r (by unfold clamp; split <;> lia) h
  ·cases h; exact hv
theorem litN_err (y:List Int):∀ (n:Nat) (v:Int) (x:List Int),0≤v→v≤4294967296→(x++y).length<n→litN n v x=some (4294967296,[])→∃ r,litN n v (x++y)=some (4294967296,r)
 | 0,_,_,_,_,h,_=>by lia
 | n+1,v,[],_,_,hl,h=>by
  simp [litN] at h; subst h
  rw [List.nil_append]; exact litN_big (n+1) y (by simpa using hl)
 | n+1,v,c::t,h0,hv,hl,h=>by
  rw [litN] at h
  rw [List.cons_append,litN]
  split at h
  ·rename_i hc
   rw [if_pos hc]
   simp only [isDig,Bool.and_eq_true,decide_eq_true_iff] at hc
   exact litN_err y n _ t (by unfold clamp; split <;> lia) (by unfold clamp; split <;> lia) (by simpa using hl) h
  ·cases h
theorem mono_lit (W:Nat):Mono W (litP W):=by
 intro x y hl
 unfold litP
 cases hs:litN W 0 x with
 | none=>rw [litN_none y W 0 x hs]; rfl
 | some vr =>
  obtain ⟨n,r⟩:=vr
  obtain ⟨⟨u,hu⟩,hn0⟩:=litN_suf _ _ _ _ _ (by lia) hs
  have hnle:=litN_le _ _ _ _ _ (by lia) hs
  cases r with
  | nil =>
   simp only
   by_cases hn:n<4294967296
   ·rw [if_pos hn]
    simp [PExt]
   ·have:n=4294967296:=by lia
    subst this
    obtain ⟨r',h2⟩:=litN_err y W 0 x (by lia) (by lia) hl hs
    rw [h2]
    simp [PExt]
  | cons c t =>
   rw [litN_some y W 0 x n c t hs]
   simp only
   by_cases hn:n<4294967296
   case neg=>rw [if_neg hn,if_neg hn]; rfl
   rw [if_pos hn,if_pos hn]
   have hlen:((c::t).length<x.length∨((c::t).take 3).length=0)↔((c::t++y).length<(x++y).length∨((c::t++y).take 3).length=0):=by
    simp only [List.length_append,List.length_take,List.length_cons]; lia
   generalize hr:c::t=r at hlen
   have hrne:r≠[]:=by rw [← hr]; simp
   clear hs hu hr
   by_cases h3:3≤r.length
   ·have e3:(r++y).take 3=r.take 3:=by rw [List.take_append_of_le_length h3]
    rw [e3] at hlen ⊢
    by_cases ht:r.take 3=[125,13,10].take (r.take 3).length
    case neg=>rw [if_neg ht,if_neg ht]; rfl
    rw [if_pos ht,if_pos ht]
    by_cases hz:r.length<x.length∨(r.take 3).length=0
    case neg=>rw [if_neg hz,if_neg (fun h=>hz (hlen.2 h))]; rfl
    rw [if_pos hz,if_pos (hlen.1 hz)]
    have ed:(r++y).drop 3=r.drop 3++y:=by rw [List.drop_append_of_le_length h3]
    rw [ed]
    obtain ⟨m,rfl⟩:=Int.eq_ofNat_of_zero_le hn0
    simp only [Int.toNat_natCast]
    by_cases h0:(0:Int)∈(r.drop 3).take m
    ·have h0':(0:Int)∈(r.drop 3++y).take m:=by
      rw [List.take_append]; exact List.mem_append_left _ h0
     rw [if_pos h0,if_pos h0']; rfl
    rw [if_neg h0]
    by_cases h5:(r.take 3).length<3∨(((r.drop 3).take m).length:Int)<(m:Int)
    ·rw [if_pos h5]; trivial
    rw [if_neg h5]
    have h6:m≤(r.drop 3).length:=by
     simp only [not_or,List.length_take] at h5; lia
    have e6:(r.drop 3++y).take m=(r.drop 3).take m:=List.take_append_of_le_length h6
    rw [e6,if_neg h0,if_neg h5]
    have e7:(r++y).drop (3+m)=r.drop (3+m)++y:=by
     rw [List.drop_append_of_le_length (by rw [List.length_drop] at h6; lia)]
    rw [e7]; rfl
   ·have hlt3:(r.take 3).length<3:=by rw [List.length_take]; lia
    have er:r.take 3=r:=List.take_of_length_le (by lia)
    by_cases ht:r.take 3=[125,13,10].take (r.take 3).length
    case neg =>
     rw [if_neg ht]
     have ht':¬ (r++y).take 3=[125,13,10].take ((r++y).take 3).length:=by
      intro h
      apply ht
      match r,hrne,h3,h with
      | [a],_,_,h =>
       have h1:=congrArg List.head? h
       cases y <;> simp at h1 ⊢ <;> exact h1
      | [a,b],_,_,h =>
       have h1:=congrArg (List.take 2) h
       cases y <;> simp at h1 ⊢ <;> exact h1
      | a::b::c::q,_,h3,_=>exact absurd (by simp) h3
     rw [if_neg ht']; rfl
    rw [if_pos ht]
    by_cases hz:r.length<x.length∨(r.take 3).length=0
    case neg =>
     rw [if_neg hz]
     have hz':=fun h=>hz (hlen.2 h)
     by_cases ht':(r++y).take 3=[125,13,10].take ((r++y).take 3).length
     ·rw [if_pos ht',if_neg hz']; rfl
     ·rw [if_neg ht']; rfl
    rw [if_pos hz]
    have hd3:r.drop 3=[]:=List.drop_eq_nil_of_le (by lia)
    rw [hd3,List.take_nil,if_neg (by simp),if_pos (Or.inl hlt3)]
    trivial
theorem skip92_app {x:List Int} (h:x≠[]) (y:List Int):skip92 (x++y)=skip92 x++y:=by
 cases x with
 | nil=>exact absurd rfl h
 | cons c t =>
  by_cases hc:c=92
  ·subst hc; rfl
  ·have e:∀ z,skip92 (c::z)=c::z:=by intro z; unfold skip92; split; (rename_i heq; cases heq; exact absurd rfl hc); rfl
   rw [List.cons_append,e,e]; rfl
theorem skip92_suf (x r:List Int) (u:List Int) (h:skip92 x=u++r):∃ v,x=v++r:=by
 cases x with
 | nil=>exact ⟨u,h⟩
 | cons b z =>
  by_cases hb:b=92
  ·subst hb; exact ⟨92::u,by rw [show z=u++r from h]; rfl⟩
  ·have:skip92 (b::z)=b::z:=by unfold skip92; split; (rename_i heq; cases heq; exact absurd rfl hb); rfl
   rw [this] at h; exact ⟨u,h⟩
theorem wordEnd_ext (w r y:List Int):PExt y (wordEnd w r) (wordEnd w (r++y)):=by
 unfold wordEnd
 split
 ·split
  ·rfl
  ·split
   ·split <;> rfl
   ·rfl
 ·rfl
theorem mono_word (W:Nat):Mono W (wordP W):=by
 intro x y hl
 unfold wordP
 cases x with
 | nil =>
  have:scanN isAtomC W (skip92 [])=some []∨scanN isAtomC W (skip92 [])=none:=by
   cases W with
   | zero=>right; rfl
   | succ n=>left; rfl
  rcases this with h | h
  ·rw [h]; trivial
  ·rw [h]; cases W with
   | zero=>simp at hl
   | succ n=>cases h
 | cons c t =>
  rw [skip92_app (by simp) y]
  cases hs:scanN isAtomC W (skip92 (c::t)) with
  | none=>rw [scanN_none _ y W _ hs]; rfl
  | some r =>
   cases r with
   | nil=>trivial
   | cons a b =>
    rw [scanN_some _ y W _ a b hs]
    obtain ⟨u,hu⟩:=scanN_len _ _ _ _ hs
    obtain ⟨v,hv⟩:=skip92_suf _ _ _ hu
    simp only [List.cons_append]
    have e:=ahead_ext (y:=y) hv
    simp only [List.cons_append] at e
    rw [e]
    exact wordEnd_ext _ _ y
theorem mono_items (W:Nat) (v:List Int→PR PV) (hv:Mono W v) (hE:Eats v) (y:List Int):∀ (n:Nat) (acc:List PV) (x:List Int),(x++y).length<W→PExt y (itemsN v n acc x) (itemsN v n acc (x++y))
 | 0,_,_,_=>rfl
 | n+1,acc,x,hl=>by
  rw [itemsN,itemsN]
  refine PExt.bind (hv x y hl) fun a r e=>?_
  obtain ⟨u,hu0,hu⟩:=hE _ _ _ e
  cases r with
  | nil=>trivial
  | cons c t =>
   rw [List.cons_append]
   simp only
   split
   ·rfl
   ·split
    ·exact mono_items W v hv hE y n _ t (by rw [hu] at hl; simp only [List.length_append,List.length_cons] at hl ⊢; lia)
    ·rfl
theorem mono_val (W:Nat):∀ dep:Nat,Mono W (valP W dep)
 | dep,[],y,hl=>by rw [valP_nil]; trivial
 | dep,c::t,y,hl=>by
  have hlt:(t++y).length<W:=by simp only [List.length_append,List.length_cons] at hl ⊢; lia
  rw [List.cons_append,valP_cons,valP_cons]
  split
  ·cases dep with
   | zero=>rfl
   | succ dep =>
    simp only
    unfold lstP
    cases t with
    | nil=>trivial
    | cons b z =>
     rw [List.cons_append]
     simp only
     split
     ·rfl
     ·have:=mono_items W (valP W dep) (mono_val W dep) (eats_val dep) y W [] (b::z) (by rw [List.cons_append]; simpa using hlt)
      rw [List.cons_append] at this
      exact this
  ·split
   ·exact mono_quo y W [] t
   ·split
    ·exact mono_lit W t y hlt
    ·have:=mono_word W (c::t) y (by rw [List.cons_append]; exact hl)
     rw [List.cons_append] at this
     exact this
theorem mono_vals (W:Nat) (v:List Int→PR PV) (hv:Mono W v) (hE:Eats v) (y:List Int):∀ (n:Nat) (acc:List PV) (x:List Int),(x++y).length<W→PExt y (valsN v n acc x) (valsN v n acc (x++y))
 | 0,_,_,_=>rfl
 | n+1,acc,[],_=>by rw [valsN]; trivial
 | n+1,acc,c::t,hl=>by
  have hlt:(t++y).length<W:=by simp only [List.length_append,List.length_cons] at hl ⊢; lia
  rw [List.cons_append,valsN,valsN]
  split
  ·refine PExt.bind (hv t y hlt) fun a r e=>?_
   obtain ⟨u,hu0,hu⟩:=hE _ _ _ e
   exact mono_vals W v hv hE y n _ r (by rw [hu] at hlt; simp only [List.length_append] at hlt ⊢; lia)
  ·have:=mono_crlf W (c::t) y (by rw [List.cons_append]; exact hl)
   rw [List.cons_append] at this
   exact PExt.bind this fun _ r _=>rfl
theorem mono_code (W:Nat) (v:List Int→PR PV) (hv:Mono W v) (hE:Eats v) (y:List Int):∀ (n:Nat) (acc:List PV) (x:List Int),(x++y).length<W→PExt y (codeN v n acc x) (codeN v n acc (x++y))
 | 0,_,_,_=>rfl
 | n+1,acc,x,hl=>by
  rw [codeN,codeN]
  refine PExt.bind (hv x y hl) fun a r e=>?_
  obtain ⟨u,hu0,hu⟩:=hE _ _ _ e
  cases r with
  | nil=>trivial
  | cons c t =>
   rw [List.cons_append]
   simp only
   split
   ·rfl
   ·split
    ·exact mono_code W v hv hE y n _ t (by rw [hu] at hl; simp only [List.length_append,List.length_cons] at hl ⊢; lia)
    ·rfl
theorem mono_data (W:Nat) (v:List Int→PR PV) (hv:Mono W v) (hE:Eats v) (y:List Int):∀ (n:Nat) (acc:List PV) (x:List Int),(x++y).length<W→PExt y (dataN v n acc x) (dataN v n acc (x++y))
 | 0,_,_,_=>rfl
 | n+1,acc,x,hl=>by
  rw [dataN,dataN]
  refine PExt.bind (hv x y hl) fun a r e=>?_
  obtain ⟨u,hu0,hu⟩:=hE _ _ _ e
  split
  ·rfl
  ·cases r with
   | nil=>trivial
   | cons c t =>
    have hlt:(c::t++y).length<W:=by rw [hu] at hl; simp only [List.length_append,List.length_cons] at hl ⊢; lia
    rw [List.cons_append]
    simp only
    split
    ·exact mono_data W v hv hE y n _ t (by simp only [List.length_append,List.length_cons] at hlt ⊢; lia)
    ·have:=mono_crlf W (c::t) y hlt
     rw [List.cons_append] at this
     exact PExt.bind this fun _ r _=>rfl
theorem mono_cmd (W dep:Nat):Mono W (cmdP W dep):=by
 unfold cmdP
 refine Mono.bind (mono_run W isTagC) (suf_run W isTagC) fun tag=>?_
 intro x y hl
 cases x with
 | nil=>trivial
 | cons c t =>
  have hlt:(t++y).length<W:=by simp only [List.length_append,List.length_cons] at hl ⊢; lia
  rw [List.cons_append]
  simp only
  split
  ·refine PExt.bind (mono_run W isLet t y hlt) fun name r e=>?_
   have:=suf_run W isLet _ _ _ e
   refine PExt.bind (mono_vals W _ (mono_val W dep) (eats_val dep) y W [] r (by rw [List.length_append] at hlt ⊢; lia)) fun vs r' _=>rfl
  ·rfl
end Mine
namespace Mine
theorem mono_text (W:Nat):Mono W (textP W):=by
 intro x y hl
 have etx:(fun c:Int=>decide (c≠10) && decide (c≠13) && decide (c≠0))=txtC:=rfl
 unfold textP
 rw [etx]
 cases hs:scanN txtC W x with
 | none=>rw [scanN_none _ y W x hs]; rfl
 | some r =>
  obtain ⟨u,hu⟩:=scanN_len _ _ _ _ hs
  cases r with
  | nil =>
   cases x with
   | nil=>trivial
   | cons c t =>
    simp only
    by_cases c91:c=91
    case neg=>rw [if_neg c91]; trivial
    subst c91
    rw [if_pos rfl]
    show _=_
    cases hs2:scanN txtC W (91::t++y) with
    | none=>exact absurd hs2 (scanN_fuel _ _ _ hl)
    | some r2 =>
     cases r2 with
     | nil=>rfl
     | cons a b =>
      obtain ⟨v,hv⟩:=scanN_len _ _ _ _ hs2
      simp only
      split
      ·rw [ahead_app hv]
       cases v with
       | nil =>
        exfalso
        have:(91::(t++y))=a::b:=hv
        injection this with h1 h2
        subst h1
        cases W with
        | zero=>simp at hl
        | succ n =>
         rw [List.cons_append,scanN] at hs2
         rw [if_pos (by decide)] at hs2
         obtain ⟨v',hv'⟩:=scanN_len _ _ _ _ hs2
         have e1:=congrArg List.length hv'
         rw [← h2] at e1
         simp only [List.length_append,List.length_cons] at e1; lia
       | cons q w =>
        have:91=q:=by
         have:=congrArg List.head? hv
         simpa using this
        subst this
        rfl
      ·rfl
  | cons c t =>
   rw [scanN_some _ y W x c t hs]
   simp only [List.cons_append]
   split
   ·rename_i hc
    have e:=ahead_ext (y:=y) hu
    simp only [List.cons_append] at e
    rw [e]
    split
    ·rfl
    ·split
     ·rfl
     ·have hlt:(c::t++y).length<W:=by rw [hu] at hl; simp only [List.length_append,List.length_cons] at hl ⊢; lia
      have:=mono_crlf W (c::t) y hlt
      rw [List.cons_append] at this
      exact PExt.bind this fun _ r _=>rfl
   ·rfl
theorem mono_fin (W:Nat) (tag w:List Int) (code:PV):Mono W (finP W tag w code):=by
 intro x y hl
 exact PExt.bind (mono_text W x y hl) fun _ r _=>rfl
theorem code_suf {v:List Int→PR PV} (hE:Eats v):∀ (n:Nat) (acc:List PV) (x:List Int) (vs:List PV) (r:List Int),codeN v n acc x=.ok vs r→r.length≤x.length
 | 0,_,_,_,_,h=>by cases h
 | n+1,acc,x,vs,r,h=>by
  rw [codeN] at h
  cases hv:v x with
  | none=>rw [hv] at h; cases h
  | err=>rw [hv] at h; cases h
  | stuck=>rw [hv] at h; cases h
  | ok a q =>
   rw [hv] at h
   obtain ⟨u,_,e⟩:=hE _ _ _ hv
   simp only [PR.bind] at h
   cases q with
   | nil=>cases h
   | cons c t =>
    simp only at h
    have e2:x.length=u.length+(t.length+1):=by rw [e]; simp
    split at h
    ·cases h; lia
    ·split at h
     ·have:=code_suf hE n _ _ _ _ h; lia
     ·cases h
theorem mono_statRest (W dep:Nat) (tag w:List Int):Mono W (statRest W dep tag w):=by
 intro x y hl
 unfold statRest
 cases x with
 | nil=>trivial
 | cons c t =>
  have hlt:(t++y).length<W:=by simp only [List.length_append,List.length_cons] at hl ⊢; lia
  rw [List.cons_append]
  simp only
  split
  ·refine PExt.bind (mono_code W _ (mono_val W dep) (eats_val dep) y W [] t hlt) fun vs r e=>?_
   have:=code_suf (eats_val dep) _ _ _ _ _ e
   unfold codeEnd
   cases r with
   | nil=>trivial
   | cons a b =>
    rw [List.cons_append]
    simp only
    split
    ·exact mono_fin W tag w _ b y (by simp only [List.length_append,List.length_cons] at this hlt ⊢; lia)
    ·rfl
  ·have:=mono_fin W tag w .none (c::t) y (by rw [List.cons_append]; exact hl)
   rw [List.cons_append] at this
   exact this
noncomputable def hit (x w:List Int):Bool:=decide ((x.take (w.length+1)).length=w.length+1) && decide (up (x.take (w.length+1))=w++[32])
theorem statP_eq (x:List Int):statP x=statuses.find? (hit x):=rfl
theorem hit_ext {x w:List Int} (h:w.length+1≤x.length) (y:List Int):hit (x++y) w=hit x w:=by
 unfold hit
 rw [List.take_append_of_le_length h]
theorem hit_short {x w:List Int} (h:x.length<w.length+1):hit x w=false:=by
 unfold hit
 have:¬ (x.take (w.length+1)).length=w.length+1:=by rw [List.length_take]; lia
 rw [decide_eq_false this]; rfl
theorem hit_len {x w:List Int} (h:hit x w=true):w.length+1≤x.length:=by
 rcases Nat.lt_or_ge x.length (w.length+1) with h' | h'
 ·rw [hit_short h'] at h; cases h
 ·exact h'
theorem statP_some {x w:List Int} (h:statP x=some w) (y:List Int):statP (x++y)=some w:=by
 rw [statP_eq] at h ⊢
 have hm:=List.mem_of_find?_eq_some h
 have ht:=List.find?_some h
 have hl:=hit_len ht
 simp only [statuses,List.mem_cons,List.not_mem_nil,or_false] at hm
 simp only [statuses,List.find?_cons,List.find?_nil] at h ⊢
 have e1:(3:Nat)≤x.length:=by rcases hm with rfl | rfl | rfl | rfl <;> simp at hl <;> lia
 have k1:hit (x++y) [79,75]=hit x [79,75]:=hit_ext (w:=_) (x:=x) (by simpa using e1) y
 have k2:hit (x++y) [78,79]=hit x [78,79]:=hit_ext (w:=_) (x:=x) (by simpa using e1) y
 rw [k1,k2]
 by_cases h4:4≤x.length
 ·have k3:hit (x++y) [66,65,68]=hit x [66,65,68]:=hit_ext (w:=_) (x:=x) (by simpa using h4) y
  have k4:hit (x++y) [66,89,69]=hit x [66,89,69]:=hit_ext (w:=_) (x:=x) (by simpa using h4) y
  rw [k3,k4]; exact h
 ·have k3:hit x [66,65,68]=false:=hit_short (by simp; lia)
  have k4:hit x [66,89,69]=false:=hit_short (by simp; lia)
  rw [k3,k4] at h
  cases a1:hit x [79,75] with
  | true=>rw [a1] at h; exact h
  | false =>
   rw [a1] at h
   simp only at h ⊢
   cases a2:hit x [78,79] with
   | true=>rw [a2] at h; exact h
   | false=>rw [a2] at h; cases h
theorem statP_none {x:List Int} (h:statP x=none):∀ w∈statuses,hit x w=false:=by
 rw [statP_eq,List.find?_eq_none] at h
 intro w hw
 simpa using h w hw
theorem scan_letters:∀ (n:Nat) (x:List Int),x.length<n→(∀ c∈x,isAtomC c=true)→scanN isAtomC n x=some []
 | 0,x,h,_=>by lia
 | n+1,[],_,_=>rfl
 | n+1,c::t,h,hx=>by
  rw [scanN,if_pos (hx c (by simp))]
  exact scan_letters n t (by simpa using h) (fun a ha=>hx a (by simp [ha]))
theorem letter_atom {c:Int} (h:65≤upC c) (h2:upC c≤90):isAtomC c=true∧c≠92∧c≠40∧c≠34∧c≠123:=by
 have:(65≤c∧c≤90)∨(97≤c∧c≤122):=by
  unfold upC at h h2; split at h <;> split at h2 <;> lia
 refine ⟨?_,by lia,by lia,by lia,by lia⟩
 unfold isAtomC
 have h1:¬ c<33:=by lia
 have h2:¬ 126<c:=by lia
 have h3:¬ c∈[34,37,40,41,42,92,93,123]:=by
  simp only [List.mem_cons,List.not_mem_nil,or_false]; lia
 simp [h1,h2,h3]
theorem val_open (W dep:Nat) (x:List Int) (hl:x.length<W) (h:∀ c∈x,65≤upC c∧upC c≤90):valP W dep x=.none:=by
 cases x with
 | nil=>exact valP_nil dep
 | cons c t =>
  obtain ⟨k0,k1,k2,k3,k4⟩:=letter_atom (h c (by simp)).1 (h c (by simp)).2
  rw [valP_cons,if_neg k2,if_neg k3,if_neg k4]
  unfold wordP
  have e:skip92 (c::t)=c::t:=by unfold skip92; split; (rename_i heq; cases heq; exact absurd rfl k1); rfl
  rw [e,scan_letters W (c::t) hl (fun a ha=>(letter_atom (h a ha).1 (h a ha).2).1)]
theorem up_take (x:List Int) (n:Nat):up (x.take n)=(up x).take n:=by unfold up; rw [List.map_take]
theorem up_len (x:List Int):(up x).length=x.length:=by unfold up; simp
theorem up_app (x y:List Int):up (x++y)=up x++up y:=by unfold up; simp
theorem hit_prefix {x y w:List Int} (h:hit (x++y) w=true) (hx:x.length≤w.length+1):(w++[32]).take (up x).length=up x:=by
 unfold hit at h
 simp only [Bool.and_eq_true,decide_eq_true_iff] at h
 rw [← h.2,up_take,up_app,up_len]
 rw [List.take_take,Nat.min_eq_left hx,← up_len x,List.take_left]
theorem mono_rest (W dep:Nat) (tag:List Int):Mono W (restP W dep tag):=by
 intro x y hl
 unfold restP
 cases hs:statP x with
 | some w =>
  rw [statP_some hs y]
  simp only
  have ht:hit x w=true:=by rw [statP_eq] at hs; exact List.find?_some hs
  have hw:=hit_len ht
  rw [List.drop_append_of_le_length hw]
  exact mono_statRest W dep tag w (x.drop (w.length+1)) y (by rw [List.length_append] at hl ⊢; rw [List.length_drop]; lia)
 | none =>
  have hno:=statP_none hs
  simp only
  by_cases ht:tag≠[]
  ·rw [if_pos ht]
   by_cases hop:x.length≤4∧statuses.any (fun w=>decide ((w++[32]).take (up x).length=up x))=true
   ·rw [if_pos hop]; trivial
   rw [if_neg hop]
   show _=_
   have hstat:statP (x++y)=none:=by
    rw [statP_eq,List.find?_eq_none]
    intro w hw hh
    by_cases hle:x.length≤w.length
    ·apply hop
     refine ⟨?_,?_⟩
     ·have:w.length≤3:=by
       simp only [statuses,List.mem_cons,List.not_mem_nil,or_false] at hw
       rcases hw with rfl | rfl | rfl | rfl <;> decide
      lia
     ·rw [List.any_eq_true]
      exact ⟨w,hw,decide_eq_true (hit_prefix hh (by lia))⟩
    ·rw [hit_ext (by lia)] at hh
     rw [hno w hw] at hh; cases hh
   rw [hstat]
   simp only
   rw [if_pos ht,if_neg ?_]
   intro hop2
   apply hop
   refine ⟨by rw [List.length_append] at hop2; lia,?_⟩
   rw [List.any_eq_true] at hop2 ⊢
   obtain ⟨w,hw,hd⟩:=hop2.2
   refine ⟨w,hw,decide_eq_true ?_⟩
   have hd:=of_decide_eq_true hd
   have h1:=congrArg (List.take (up x).length) hd
   rw [List.take_take,up_app,List.length_append,Nat.min_eq_left (by lia),List.take_left] at h1
   exact h1
  ·rw [if_neg ht]
   have ht':tag=[]:=by simpa using ht
   cases hs2:statP (x++y) with
   | none =>
    simp only
    rw [if_neg ht]
    refine PExt.bind (mono_data W _ (mono_val W dep) (eats_val dep) y W [] x hl) fun vs r _=>rfl
   | some w =>
    have hm:w∈statuses:=by rw [statP_eq] at hs2; exact List.mem_of_find?_eq_some hs2
    have hh:hit (x++y) w=true:=by rw [statP_eq] at hs2; exact List.find?_some hs2
    have hle:x.length≤w.length:=by
     rcases Nat.lt_or_ge w.length x.length with h | h
     ·rw [hit_ext (by lia),hno w hm] at hh; cases hh
     ·exact h
    have hpre:=hit_prefix hh (by lia)
    rw [List.take_append_of_le_length (by rw [up_len]; exact hle)] at hpre
    have hlet:∀ c∈x,65≤upC c∧upC c≤90:=by
     intro c hc
     have h1:upC c∈up x:=by unfold up; exact List.mem_map_of_mem hc
     rw [← hpre] at h1
     have h2:=List.take_subset _ _ h1
     have key:∀ w∈statuses,∀ z∈w,65≤z∧z≤90:=by decide
     exact key w hm _ h2
    have hv:=val_open W dep x (by rw [List.length_append] at hl; lia) hlet
    have:dataN (valP W dep) W [] x=.none∨dataN (valP W dep) W [] x=.stuck∧W=0:=by
     cases hW:W with
     | zero=>right; exact ⟨rfl,rfl⟩
     | succ n=>left; rw [hW] at hv; rw [dataN,hv]; rfl
    rcases this with h | ⟨_,h⟩
    ·rw [h]; trivial
    ·lia
theorem mono_go (W dep:Nat) (tag:List Int):Mono W (goP W dep tag):=by
 intro x y hl
 unfold goP
 cases x with
 | nil=>trivial
 | cons c t =>
  rw [List.cons_append]
  simp only
  split
  ·exact mono_rest W dep tag t y (by simp only [List.length_append,List.length_cons] at hl ⊢; lia)
  ·rfl
theorem mono_line (W dep:Nat):Mono W (lineP W dep):=by
 intro x y hl
 unfold lineP
 cases x with
 | nil =>
  have:runP W isTagC []=.none:=by
   cases W with
   | zero=>simp at hl
   | succ n=>rfl
  simp only [this]
  trivial
 | cons c t =>
  have hlt:(t++y).length<W:=by simp only [List.length_append,List.length_cons] at hl ⊢; lia
  rw [List.cons_append]
  simp only
  split
  ·unfold contP
   cases t with
   | nil=>trivial
   | cons b u =>
    rw [List.cons_append]
    simp only
    split
    ·exact PExt.bind (mono_text W u y (by simp only [List.length_append,List.length_cons] at hlt ⊢; lia)) fun _ r _=>rfl
    ·rfl
  ·split
   ·exact mono_go W dep [] t y hlt
   ·have:=mono_run W isTagC (c::t) y (by rw [List.cons_append]; exact hl)
    rw [List.cons_append] at this
    refine PExt.bind this fun tag r e=>?_
    have h2:=suf_run W isTagC _ _ _ e
    exact mono_go W dep tag r y (by simp only [List.length_append,List.length_cons] at hl h2 ⊢; lia)
theorem reads_good {α:Type} {W:Nat} {p:List Int→PR α} (hm:Mono W p) {x:List Int} {a:α} (h:p x=.ok a []) (hl:x.length<W) {n:Nat} (hn:n<x.length):p (x.take n)=.none:=by
 have e:x.take n++x.drop n=x:=List.take_append_drop n x
 have:=hm (x.take n) (x.drop n) (by rw [e]; exact hl)
 rw [e,h] at this
 cases hp:p (x.take n) with
 | none=>rfl
 | err=>rw [hp] at this; cases this
 | stuck=>rw [hp] at this; cases this
 | ok b r =>
  rw [hp] at this
  have h2:=congrArg (fun z:PR α=>match z with | .ok _ r=>r.length | _=>0) (show PR.ok a []=.ok b (r++x.drop n) from this)
  simp only [List.length_nil,List.length_append,List.length_drop] at h2
  lia
theorem reads_none {α:Type} {W:Nat} {p:List Int→PR α} (hm:Mono W p) {x:List Int} (h:p x=.none) (hl:x.length<W) (n:Nat):p (x.take n)=.none:=by
 have e:x.take n++x.drop n=x:=List.take_append_drop n x
 have:=hm (x.take n) (x.drop n) (by rw [e]; exact hl)
 rw [e,h] at this
 cases hp:p (x.take n) with
 | none=>rfl
 | err=>rw [hp] at this; cases this
 | stuck=>rw [hp] at this; cases this
 | ok b r=>rw [hp] at this; cases this
theorem reads_err {α:Type} {W:Nat} {p:List Int→PR α} (hm:Mono W p) {x:List Int} (h:p x=.err) (y:List Int) (hl:(x++y).length<W):p (x++y)=.err:=by
 have:=hm x y hl
 rw [h] at this; exact this
theorem reads_more {α:Type} {W:Nat} {p:List Int→PR α} (hm:Mono W p) {x:List Int} {a:α} {r:List Int} (h:p x=.ok a r) (y:List Int) (hl:(x++y).length<W):p (x++y)=.ok a (r++y):=by
 have:=hm x y hl
 rw [h] at this; exact this
end Mine
namespace Mine
namespace L2
structure Part where
 w:List Int
 a:Int
 o:Option (List Int)
structure Leaf where
 w:List Int
 a:Int
 o:Option (List Int)
 v:PV
structure Nam where
 w:List Int
 a:Int
 o:Option (List Int)
 x:List Int
noncomputable def ownV:Option (List Int)→PV
 | none=>.none
 | some b=>.bytes b
noncomputable def Part.pv (p:Part):PV:=.tuple [.bytes p.w,.int p.a,ownV p.o]
noncomputable def Leaf.pv (p:Leaf):PV:=.tuple [.bytes p.w,.int p.a,ownV p.o,p.v]
noncomputable def Nam.pv (p:Nam):PV:=.tuple [.bytes p.w,.int p.a,ownV p.o,.bytes p.x]
noncomputable def Leaf.part (p:Leaf):Part:=⟨p.w,p.a,p.o⟩
noncomputable def Nam.part (p:Nam):Part:=⟨p.w,p.a,p.o⟩
noncomputable def t_signs:List Leaf:=[⟨[97,42],1,none,(.tuple [(.str [97,116,111,109]),(.bytes [97,42])])⟩,⟨[97,37],1,none,(.tuple [(.str [97,116,111,109]),(.bytes [97,37])])⟩,⟨[97,34],1,none,(.tuple [(.str [97,116,111,109]),(.bytes [97,34])])⟩,⟨[97,40],1,none,(.tuple [(.str [97,116,111,109]),(.bytes [97,40])])⟩,⟨[97,92],1,none,(.tuple [(.str [97,116,111,109]),(.bytes [97,92])])⟩,⟨[97,123],1,none,(.tuple [(.str [97,116,111,109]),(.bytes [97,123])])⟩,⟨[97,127],1,none,(.tuple [(.str [97,116,111,109]),(.bytes [97,127])])⟩,⟨[42],0,none,(.tuple [(.str [97,116,111,109]),(.bytes [97,41])])⟩,⟨[],0,none,(.tuple [(.str [97,116,111,109]),(.bytes [])])⟩,⟨[92],1,none,(.tuple [(.str [97,116,111,109]),(.bytes [92])])⟩]
noncomputable def t_counts:List Leaf:=[⟨[52,50,57,52,57,54,55,50,57,54],10,none,(.tuple [(.str [110,117,109,98,101,114]),(.int 4294967296)])⟩,⟨[123,52,50,57,52,57,54,55,50,57,54,125],10,none,(.tuple [(.str [110,117,109,98,101,114]),(.int (-1))])⟩,⟨[123,52,50,57,52,57,54,55,50,57,53,120],11,none,(.tuple [(.str [110,117,109,98,101,114]),(.flt 0)])⟩,⟨[123,125],1,none,(.tuple [(.str [97,116,111,109]),(.bytes [110,73,108])])⟩,⟨[123,49,120],2,none,(.tuple [(.str [97,116,111,109]),(.bytes [52,50])])⟩,⟨[123,49,125,120],3,none,(.tuple [(.str [115,116,114,105,110,103]),(.tuple [(.int 97)])])⟩,⟨[123,49,125,13,120],4,none,(.tuple [(.str [108,105,115,116]),.dict0])⟩,⟨[123,50,125,13,10,97,0],6,none,(.tuple [(.str [115,116,114,105,110,103]),(.bytes [97,0])])⟩,⟨[123,48,125,13,10,97],5,none,(.tuple [(.str [110,105,108]),(.int 1)])⟩,⟨[123,120],1,none,(.tuple [(.str [116,101,120,116]),(.bytes [97])])⟩]
noncomputable def t_quotes:List Leaf:=[⟨[34,92,120,34],2,none,(.tuple [(.str [97,116,111,109]),(.bytes [92,97,92])])⟩,⟨[34,97,13,34],2,none,(.tuple [(.str [97,116,111,109]),(.bytes [97,32,98])])⟩,⟨[34,10,34],1,none,(.tuple [(.str [97,116,111,109]),(.tuple [(.int 97)])])⟩,⟨[34,128,34],1,none,(.tuple [(.str [97,116,111,109]),(.bytes [128])])⟩,⟨[34,0,34],1,none,(.tuple [(.str [115,116,114,105,110,103]),(.bytes [0])])⟩,⟨[34,34,97],2,none,(.tuple [(.str [110,105,108]),(.bytes [])])⟩,⟨[40,32,41],1,none,(.tuple [(.str [108,105,115,116]),(.list [(.tuple [(.str [97,116,111,109]),(.bytes [])])])])⟩,⟨[40,97,32,32,98,41],3,none,(.tuple [(.str [110,117,109,98,101,114])])⟩,⟨[40,97,32,41],3,none,(.tuple [(.str [97,116,111,109]),(.bytes [97]),(.bytes [])])⟩,⟨[40,34,34,97,41],3,none,(.tuple [])⟩]
noncomputable def t_plain:List Leaf:=[⟨[40,41],(-1),(some [40,41]),(.tuple [(.str [108,105,115,116]),(.list [])])⟩,⟨[110,73,108],(-1),(some [78,73,76]),(.tuple [(.str [110,105,108])])⟩,⟨[110,105,120],(-1),(some [110,105,120]),(.tuple [(.str [97,116,111,109]),(.bytes [110,105,120])])⟩,⟨[111,75],(-1),(some [111,75]),(.tuple [(.str [97,116,111,109]),(.bytes [111,75])])⟩,⟨[92,65,122,48,57],(-1),(some [92,65,122,48,57]),(.tuple [(.str [97,116,111,109]),(.bytes [92,65,122,48,57])])⟩,⟨[49,47],(-1),(some [49,47]),(.tuple [(.str [97,116,111,109]),(.bytes [49,47])])⟩,⟨[58,57],(-1),(some [58,57]),(.tuple [(.str [97,116,111,109]),(.bytes [58,57])])⟩,⟨[33,35,36,38,39,43,44,45,46,47,58,59,60,61,62,63,64,91,94,95,96,124,125,126],(-1),(some [33,35,36,38,39,43,44,45,46,47,58,59,60,61,62,63,64,91,94,95,96,124,125,126]),(.tuple [(.str [97,116,111,109]),(.bytes [33,35,36,38,39,43,44,45,46,47,58,59,60,61,62,63,64,91,94,95,96,124,125,126])])⟩,⟨[48,48],(-1),(some [48]),(.tuple [(.str [110,117,109,98,101,114]),(.int 0)])⟩,⟨[52,50,57,52,57,54,55,50,57,53],(-1),(some [52,50,57,52,57,54,55,50,57,53]),(.tuple [(.str [110,117,109,98,101,114]),(.int 4294967295)])⟩]
noncomputable def t_strings:List Leaf:=[⟨[48,49,50,48],(-1),(some [49,50,48]),(.tuple [(.str [110,117,109,98,101,114]),(.int 120)])⟩,⟨[34,34],(-1),(some [34,34]),(.tuple [(.str [115,116,114,105,110,103]),(.bytes [])])⟩,⟨[34,97,92,34,92,92,1,127,34],(-1),(some [34,97,92,34,92,92,1,127,34]),(.tuple [(.str [115,116,114,105,110,103]),(.bytes [97,34,92,1,127])])⟩,⟨[34,9,11,12,14,34],(-1),(some [34,9,11,12,14,34]),(.tuple [(.str [115,116,114,105,110,103]),(.bytes [9,11,12,14])])⟩,⟨[34,113,113,113,113,113,113,113,113,113,113,113,113,113,113,113,113,113,113,113,113,113,113,113,113,113,113,113,113,113,113,113,113,113,113,113,113,113,113,113,113,34],(-1),(some [34,113,113,113,113,113,113,113,113,113,113,113,113,113,113,113,113,113,113,113,113,113,113,113,113,113,113,113,113,113,113,113,113,113,113,113,113,113,113,113,113,34]),(.tuple [(.str [115,116,114,105,110,103]),(.bytes [113,113,113,113,113,113,113,113,113,113,113,113,113,113,113,113,113,113,113,113,113,113,113,113,113,113,113,113,113,113,113,113,113,113,113,113,113,113,113,113])])⟩,⟨[123,52,49,125,13,10,113,113,113,113,113,113,113,113,113,113,113,113,113,113,113,113,113,113,113,113,113,113,113,113,113,113,113,113,113,113,113,113,113,113,113,113,113,113,113,113,113],(-1),(some [123,52,49,125,13,10,113,113,113,113,113,113,113,113,113,113,113,113,113,113,113,113,113,113,113,113,113,113,113,113,113,113,113,113,113,113,113,113,113,113,113,113,113,113,113,113,113]),(.tuple [(.str [115,116,114,105,110,103]),(.bytes [113,113,113,113,113,113,113,113,113,113,113,113,113,113,113,113,113,113,113,113,113,113,113,113,113,113,113,113,113,113,113,113,113,113,113,113,113,113,113,113,113])])⟩,⟨[123,48,51,125,13,10,97,34,98],(-1),(some [34,97,92,34,98,34]),(.tuple [(.str [115,116,114,105,110,103]),(.bytes [97,34,98])])⟩,⟨[123,50,125,13,10,13,40],(-1),(some [123,50,125,13,10,13,40]),(.tuple [(.str [115,116,114,105,110,103]),(.bytes [13,40])])⟩,⟨[123,49,125,13,10,10],(-1),(some [123,49,125,13,10,10]),(.tuple [(.str [115,116,114,105,110,103]),(.bytes [10])])⟩,⟨[123,50,125,13,10,122,128],(-1),(some [123,50,125,13,10,122,128]),(.tuple [(.str [115,116,114,105,110,103]),(.bytes [122,128])])⟩]
noncomputable def t_first:List Leaf:=[⟨[79,75,65,89],(-1),(some [79,75,65,89]),(.tuple [(.str [97,116,111,109]),(.bytes [79,75,65,89])])⟩,⟨[48,55],(-1),(some [55]),(.tuple [(.str [110,117,109,98,101,114]),(.int 7)])⟩,⟨[34,79,75,34],(-1),(some [34,79,75,34]),(.tuple [(.str [115,116,114,105,110,103]),(.bytes [79,75])])⟩,⟨[110,111,49],(-1),(some [110,111,49]),(.tuple [(.str [97,116,111,109]),(.bytes [110,111,49])])⟩,⟨[110,105,108],(-1),(some [78,73,76]),(.tuple [(.str [110,105,108])])⟩]
noncomputable def t_firstB:List Leaf:=[⟨[111,107,13],2,none,(.tuple [(.str [97,116,111,109]),(.bytes [111,107])])⟩,⟨[66,121,101,41],3,none,(.tuple [(.str [97,116,111,109]),(.bytes [66,121,101])])⟩,⟨[66,65,68,13],3,none,(.tuple [(.str [97,116,111,109]),(.bytes [66,65,68])])⟩,⟨[110,79,41],2,none,(.tuple [(.str [97,116,111,109]),(.bytes [110,79])])⟩]
noncomputable def t_sep:List Part:=[⟨[32],(-1),(some [32])⟩]
noncomputable def t_sepB:List Part:=[⟨[32,32],1,(some [32])⟩,⟨[41],0,(some [32])⟩]
noncomputable def t_tag:List Part:=[⟨[97,49],(-1),(some [97,49])⟩,⟨[65,90,97,122,48,57,45],(-1),(some [65,90,97,122,48,57,45])⟩,⟨[45,120],(-1),(some [45,120])⟩]
noncomputable def t_tagB:List Part:=[⟨[32],0,none⟩,⟨[97,64],1,none⟩,⟨[97,91],1,none⟩,⟨[97,96],1,none⟩,⟨[97,123],1,none⟩,⟨[97,47],1,none⟩,⟨[97,58],1,none⟩,⟨[97,44],1,none⟩,⟨[97,46],1,none⟩]
noncomputable def t_text:List Part:=[⟨[104,105],(-1),(some [104,105])⟩,⟨[120],(-1),(some [120])⟩,⟨[9,11,12,14,1,255],(-1),(some [9,11,12,14,1,255])⟩,⟨[92,90,32,91,121,93,32],(-1),(some [92,90,32,91,121,93,32])⟩,⟨[90,91],(-1),(some [90,91])⟩]
noncomputable def t_textB:List Part:=[⟨[97,0,98],1,none⟩,⟨[97,10,98],1,none⟩,⟨[97,13,98],2,none⟩,⟨[],0,none⟩,⟨[91],0,none⟩]
noncomputable def t_end:List Part:=[⟨[13,10],(-1),(some [13,10])⟩]
noncomputable def t_endB:List Part:=[⟨[13,13],1,none⟩,⟨[10],0,none⟩,⟨[13,120],1,none⟩]
noncomputable def t_name:List Nam:=[⟨[110,111,111,112],(-1),(some [110,111,111,112]),[78,79,79,80]⟩,⟨[65,90,97,122],(-1),(some [65,90,97,122]),[65,90,65,90]⟩]
noncomputable def t_nameB:List Nam:=[⟨[],0,none,[]⟩,⟨[97,49],1,none,[]⟩,⟨[98,64],1,none,[]⟩,⟨[90,91],1,none,[]⟩,⟨[121,96],1,none,[]⟩,⟨[122,123],1,none,[]⟩]
noncomputable def t_plus:List Part:=[⟨[43,32],(-1),(some [43,32])⟩]
noncomputable def t_plusB:List Part:=[⟨[43,120],1,(some [43,32])⟩]
noncomputable def t_star:List Part:=[⟨[42,32],(-1),(some [42,32])⟩]
noncomputable def t_starB:List Part:=[⟨[42,120],1,(some [42,32])⟩]
noncomputable def t_word:List Nam:=[⟨[111,75],(-1),(some [79,75]),[79,75]⟩,⟨[78,79],(-1),(some [78,79]),[78,79]⟩,⟨[98,65,100],(-1),(some [66,65,68]),[66,65,68]⟩,⟨[66,121,101],(-1),(some [66,89,69]),[66,89,69]⟩]
noncomputable def t_wordB:List Nam:=[⟨[111,75,120],2,none,[111,75]⟩,⟨[66,89,68],2,none,[66,89,69,32]⟩,⟨[120],0,none,[]⟩,⟨[32],0,none,[111,107]⟩,⟨[66,65,68,88],3,none,[66,65]⟩,⟨[110,111,45],2,none,[110,111]⟩]
noncomputable def pick {α:Type} (z:α) (gs bs:List α) (n:Int) (b:Bool):α:=if b then (bs[(n % bs.length).toNat]?).getD z else (gs[(n % gs.length).toNat]?).getD z
theorem idx_mod {α:Type} (f:α→PV) (z:α) (l:List α) (n:Int) (hl:l≠[]):idxP (.tuple (l.map f)) (.int (n % l.length))=.ok (f ((l[(n % l.length).toNat]?).getD z)):=by
 have h0:(0:Int)<l.length:=by have:=List.length_pos_iff.2 hl; lia
 have h1:=Int.emod_nonneg n (show (l.length:Int)≠0 by lia)
 have h2:=Int.emod_lt_of_pos n h0
 have h3:(n % (l.length:Int)).toNat<l.length:=by lia
 show (if 0≤n % (l.length:Int) then ofI (l.map f)[(n % (l.length:Int)).toNat]? else _)=_
 rw [if_pos h1,List.getElem?_map,List.getElem?_eq_getElem h3]
 rfl
section
variable {W:Nat}
theorem d_pick {α:Type} (f:α→PV) (z:α) (gs bs:List α) (hg:gs≠[]) (hb:bs≠[]) (d:Nat) (n:Int) (b:Bool) :
  den T G W (d+1) 29 [.tuple (gs.map f),.tuple (bs.map f),.int n,.bool b]=.ok (f (pick z gs bs n b)):=by
 rw [den_code (T:=T) (f:=29) (vs:=vf_law_pick) (k:=4) (body:=cf_law_pick) rfl rfl]
 show outS (evSs _ _ _ cf_law_pick [.val (.tuple (gs.map f)),.val (.tuple (bs.map f)),.val (.int n),.val (.bool b)])=_
 have key:∀ (l:List α) (hl:l≠[]) (i:Nat) (ρ:List Slot),getS ρ i=.val (.tuple (l.map f))→getS ρ 2=.val (.int n)→evE (den T G W d) G (.idx (.var i) (.bin .mod (.var 2) (.len (.var i)))) ρ=.ok (f ((l[(n % l.length).toNat]?).getD z)):=by
  intro l hl i ρ h1 h2
  have h0:(0:Int)<((l.map f).length:Int):=by have:=List.length_pos_iff.2 hl; simp; lia
  simp only [xidx,xbin,xvar,xlen,xlit,h1,h2,b_ok,l_t,o_modi,h0,if_true]
  have:=idx_mod f z l n hl
  rw [List.length_map]
  exact this
 rw [cf_law_pick]
 cases b
 ·rw [run_next ((if_no (b_of rfl)).trans run_nil),xSs,xret,key gs hg 0 _ rfl rfl]; rfl
 ·rw [run_ret ((if_yes (b_of rfl)).trans (run_ret (v:=f (pick z gs bs n true)) (by rw [xret,key bs hb 1 _ rfl rfl]; rfl)))]; rfl
end
end L2
end Mine
namespace Mine
namespace L2
theorem to_ret {F:Nat→List PV→Res PV} {G:Nat→Res PV} {W:Nat} {e:CE} {v:PV} {ρ:List Slot} (h:evE F G e ρ=.ok v):evS F G W (.ret e) ρ=.ok (.ret v,ρ):=by rw [xret,h]; rfl
theorem to_assignT {F:Nat→List PV→Res PV} {G:Nat→Res PV} {W:Nat} {e:CE} {vs:List PV} {ρ:List Slot} {rev:Bool} {is:List Nat} (h:evE F G e ρ=.ok (.tuple vs)) (hl:vs.length=is.length) :
  evS F G W (.assignT rev is e) ρ=.ok (.next,if rev then putsS ρ is.reverse vs.reverse else putsS ρ is vs):=by
 rw [xsetT,h,b_ok]
 show (if vs.length=is.length then Res.ok vs else .stuck).bind _=_
 rw [if_pos hl]; rfl
theorem o_addl (a b:List PV) (h:a.length+b.length≤lim):binP .add (.list a) (.list b)=.ok (.list (a++b)):=by
 show (if _ then _ else _)=_
 rw [if_pos h]
noncomputable def z3:Part:=⟨[],0,none⟩
noncomputable def z4:Leaf:=⟨[],0,none,.none⟩
noncomputable def z5:Nam:=⟨[],0,none,[]⟩
noncomputable def atT (l:List Leaf) (n:Int):Leaf:=(l[(n % 10).toNat]?).getD z4
noncomputable def leafOf (spot m n:Int):Leaf :=
 if spot=0 then atT t_signs n else if spot=1 then atT t_counts n else if spot=2 then atT t_quotes n
 else if m % 2=0 then atT t_plain n else atT t_strings n
section
variable {W:Nat}
theorem atT_idx (l:List Leaf) (n:Int) (hl:l.length=10):idxP (.tuple (l.map Leaf.pv)) (.int (n % 10))=.ok (atT l n).pv:=by
 have:=idx_mod Leaf.pv z4 l n (by intro e; rw [e] at hl; cases hl)
 rw [hl] at this
 exact this
theorem ev_ix {F:Nat→List PV→Res PV} {G:Nat→Res PV} {ρ:List Slot} {a b:CE} {x y:PV} {R:Res PV} (h1:evE F G a ρ=.ok x) (h2:evE F G b ρ=.ok y) (h3:idxP x y=R):evE F G (.idx a b) ρ=R:=by
 rw [xidx,h1,b_ok,h2,b_ok,h3]
theorem d_leaf (d:Nat) (spot m n:Int) (h0:0≤spot):den T G W (d+1) 30 [.int spot,.int m,.int n]=.ok (leafOf spot m n).pv:=by
 rw [den_code (T:=T) (f:=30) (vs:=vf_law_leaf) (k:=3) (body:=cf_law_leaf) rfl rfl]
 refine go (rs rfl (rs rfl (rs rfl (rs rfl (rs rfl ?_)))))
 unfold leafOf
 by_cases s0:spot=0
 ·subst s0; exact ry rfl (rr (ev_ix (x:=.tuple (t_signs.map Leaf.pv)) rfl rfl (atT_idx t_signs n rfl)))
 rw [if_neg s0]
 by_cases s1:spot=1
 ·subst s1; exact ry rfl (rr (ev_ix (x:=.tuple (t_counts.map Leaf.pv)) rfl rfl (atT_idx t_counts n rfl)))
 rw [if_neg s1]
 by_cases s2:spot=2
 ·subst s2; exact ry rfl (rr (ev_ix (x:=.tuple (t_quotes.map Leaf.pv)) rfl rfl (atT_idx t_quotes n rfl)))
 rw [if_neg s2]
 refine rf0 (bF (decide_eq_false (by omega))) (rr ?_)
 by_cases hm:m % 2=0
 ·rw [if_pos hm]; exact ev_ix (x:=.tuple (t_plain.map Leaf.pv)) (ev_ix (y:=.int (m % 2)) rfl rfl (by rw [hm]; rfl)) rfl (atT_idx t_plain n rfl)
 ·rw [if_neg hm]; exact ev_ix (x:=.tuple (t_strings.map Leaf.pv)) (ev_ix (y:=.int (m % 2)) rfl rfl (by rw [show m % 2=1 by omega]; rfl)) rfl (atT_idx t_strings n rfl)
noncomputable def xV:PV:=.tuple [.str [97,116,111,109],.bytes [120]]
noncomputable def nest:Nat→PV→PV
 | 0,v=>v
 | k+1,v=>nest k (.tuple [.str [108,105,115,116],.list [xV,v]])
noncomputable def opens (k:Nat):List Int:=(List.replicate k [40,120,32]).flatten
noncomputable def closes (k:Nat):List Int:=(List.replicate k [41]).flatten
noncomputable def deepAt (depth:Int) (k:Nat) (leaf:Leaf):Int:=if depth<k∨((k:Int)=depth∧leaf.w.take 1=[40]) then 3 * depth else -1
noncomputable def bodyParts (size:Int) (two:Bool) (depth:Int) (k:Nat) (first:Leaf) (sep:Part) (leaf:Leaf):List Part :=
 (if 0<size∨two then [first.part] else [])++(if 1<size then [sep,⟨opens k,deepAt depth k leaf,some (opens k)⟩,leaf.part,⟨closes k,-1,some (closes k)⟩] else [])
noncomputable def bodyVals (size:Int) (two:Bool) (k:Nat) (first leaf:Leaf):List PV :=
 (if 0<size∨two then [first.v] else [])++(if 1<size then [nest k leaf.v] else [])
theorem mulB (l:List Int) (h0:l≠[]) (h1:l.length≤16) (k:Nat) (hk:k≤2):binP .mul (.bytes l) (.int k)=.ok (.bytes (List.replicate k l).flatten):=by
 have h2:l.length * k≤32:=by
  calc l.length * k≤16 * 2:=Nat.mul_le_mul h1 hk
   _=32:=rfl
 have hc:l≠[]∧l.length≤16∧-(lim:Int)≤(k:Int)∧(k:Int)≤lim∧l.length * (k:Int).toNat≤lim:=⟨h0,h1,by simp only [lim]; lia,by simp only [lim]; lia,by rw [Int.toNat_natCast]; simp only [lim]; lia⟩
 show (if _ then _ else _)=_
 rw [if_pos hc,Int.toNat_natCast]
theorem to_call4 {F:Nat→List PV→Res PV} {G:Nat→Res PV} {ρ:List Slot} {f:Nat} {a b c e:CE} {w x y z:PV} (h1:evE F G a ρ=.ok w) (h2:evE F G b ρ=.ok x) (h3:evE F G c ρ=.ok y) (h4:evE F G e ρ=.ok z):evE F G (.call f [a,b,c,e]) ρ=F f [w,x,y,z]:=by
 show (Res.bind (Res.bind (evE F G a ρ) _) _)=_
 rw [h1]; show (Res.bind (Res.bind (Res.bind (evE F G b ρ) _) _) _)=_
 rw [h2]; show (Res.bind (Res.bind (Res.bind (Res.bind (evE F G c ρ) _) _) _) _)=_
 rw [h3]; show (Res.bind (Res.bind (Res.bind (Res.bind (Res.bind (evE F G e ρ) _) _) _) _) _)=_
 rw [h4]; rfl
theorem lst4 {F:Nat→List PV→Res PV} {G:Nat→Res PV} {ρ:List Slot} {a b c e:CE} {w x y z:PV} (h1:evE F G a ρ=.ok w) (h2:evE F G b ρ=.ok x) (h3:evE F G c ρ=.ok y) (h4:evE F G e ρ=.ok z):evE F G (.lst [a,b,c,e]) ρ=.ok (.list [w,x,y,z]):=by
 rw [xlst,xE1,h1,b_ok,xE1,h2,b_ok,xE1,h3,b_ok,xE1,h4]; rfl
section
variable {F:Nat→List PV→Res PV} {G:Nat→Res PV} {ρ:List Slot} {a b c e:CE} {ts us r:List CS} {v:PV} {P:Prop} [Decidable P]
noncomputable def EL (F:Nat→List PV→Res PV) (G:Nat→Res PV) (ρ:List Slot) (e:CE) (x:List Part) (n:Nat):Prop:=evE F G e ρ=.ok (.list (x.map Part.pv))∧x.length≤n
theorem EL.add {x y:List Part} {p q:Nat} (h1:EL F G ρ a x p) (h2:EL F G ρ b y q) (h:p+q≤lim):EL F G ρ (.bin .add a b) (x++y) (p+q):=by
 have hl:x.length+y.length≤p+q:=Nat.add_le_add h1.2 h2.2
 refine ⟨?_,by rw [List.length_append]; exact hl⟩
 rw [xbin,h1.1,b_ok,h2.1,b_ok,o_addl _ _ (by rw [List.length_map,List.length_map]; exact Nat.le_trans hl h),List.map_append]
theorem if_put2 {α β:Type} (f:α→PV) (g:β→PV) {i j:Nat} {x y:α} {x' y':β} (hb:evE F G c ρ=.ok (.bool (decide P))) (hy:P→evSs F G W ts ρ=.ok (.next,putS (putS ρ i (.val (f x))) j (.val (g x')))) (hn:putS (putS ρ i (.val (f y))) j (.val (g y'))=ρ):evS F G W (.if_ c ts []) ρ=.ok (.next,putS (putS ρ i (.val (f (if P then x else y)))) j (.val (g (if P then x' else y')))) :=
 if_fun (fun a b=>putS (putS ρ i (.val (f a))) j (.val (g b))) hb hy hn
end
noncomputable def lsP (b:List Part):PV:=.list (b.map Part.pv)
noncomputable def stV (kind spot depth size:Int) (k:Nat) (m n f:Int) (first:Leaf) (P:List Part) (V:List PV):List Slot:=[.val (.int kind),.val (.int spot),.val (.int depth),.val (.int size),.val (.int k),.val (.int m),.val (.int n),.val (.int f),.val (.tuple (t_first.map Leaf.pv)),.val (.tuple (t_firstB.map Leaf.pv)),.val first.pv,.val (lsP P),.val (.list V),.unset,.unset,.unset,.unset,.unset]
theorem nest_loop {F:Nat→List PV→Res PV} (kind spot depth size:Int) (k:Nat) (hk:k≤2) (m n f:Int) (first leaf:Leaf) (P:List Part) (V:List PV):∃ s,evS F G W (.forR 15 (.var 4) [.assign 14 (.tup [(.lit (.str [108,105,115,116])),(.lst [(.tup [(.lit (.str [97,116,111,109])),(.lit (.bytes [120]))]),(.var 14)])])])
   (putS (putS (stV kind spot depth size k m n f first P V) 13 (.val leaf.pv)) 14 (.val leaf.v))=.ok (.next,putS (putS (putS (stV kind spot depth size k m n f first P V) 13 (.val leaf.pv)) 14 (.val (nest k leaf.v))) 15 s) :=
 match k,hk with
 | 0,_=>⟨.unset,rfl⟩
 | 1,_=>⟨.val (.int 0),rfl⟩
 | 2,_=>⟨.val (.int 1),rfl⟩
theorem len1 {α:Type} {c:Prop} [Decidable c] {a:α}:(if c then [a] else []).length≤1:=by split <;> exact Nat.le_of_ble_eq_true rfl
theorem d_values (d:Nat) (kind spot depth size:Int) (k:Nat) (hk:k≤2) (m n f:Int) (h0:0≤spot) (hd0:0≤depth) (hd:depth≤3) :
  den T G W (d+2) 31 [.int kind,.int spot,.int depth,.int size,.int k,.int m,.int n,.int f] =
   .ok (.tuple [.list ((bodyParts size (decide (1<kind)) depth k (pick z4 t_first t_firstB f (decide (kind=2) && decide (spot=4))) (pick z3 t_sep t_sepB f (decide (spot=5))) (leafOf spot m n)).map Part.pv),
    .list (bodyVals size (decide (1<kind)) k (pick z4 t_first t_firstB f (decide (kind=2) && decide (spot=4))) (leafOf spot m n))]):=by
 rw [den_code (T:=T) (f:=31) (vs:=vf_law_values) (k:=8) (body:=cf_law_values) rfl rfl]
 unfold bodyParts bodyVals
 generalize hF:pick z4 t_first t_firstB f (decide (kind=2) && decide (spot=4))=first
 have p1:=d_pick (W:=W) Leaf.pv z4 t_first t_firstB (by decide) (by decide) d f (decide (kind=2) && decide (spot=4))
 rw [hF] at p1
 refine go (rs rfl (rs rfl (rs (Eq.trans (to_call4 rfl rfl rfl (ev_and2 rfl rfl)) p1) (rn (to_assignT (vs:=[.list [],.list []]) rfl rfl) (rn (if_put2 (i:=12) (j:=11) PV.list lsP (x:=[first.v]) (y:=[]) (x':=[first.part]) (y':=[]) (P:=0<size∨decide (1<kind)=true) (bd (ev_or2 rfl rfl) (by rw [Bool.or_eq_true,decide_eq_true_iff])) (fun _=>run_next (to_assignT (vs:=[.list [first.part.pv],.list [first.v]]) rfl rfl)) rfl) ?_)))))
 have hPl:(if 0<size∨decide (1<kind)=true then [first.part] else []).length≤1:=len1
 have hVl:(if 0<size∨decide (1<kind)=true then [first.v] else []).length≤1:=len1
 generalize (if 0<size∨decide (1<kind)=true then [first.part] else [])=P at hPl
 generalize (if 0<size∨decide (1<kind)=true then [first.v] else [])=V at hVl
 by_cases hs:1<size
 case neg =>
  rw [if_neg hs,if_neg hs,List.append_nil,List.append_nil]
  exact rf0 (bF (decide_eq_false hs)) (rr rfl)
 rw [if_pos hs,if_pos hs]
 obtain ⟨s,hl⟩:=nest_loop (W:=W) (F:=den T G W (d+1)) kind spot depth size k hk m n f first (leafOf spot m n) P V
 have mO:=mulB [40,120,32] (by decide) (by decide) k hk
 have mC:=mulB [41] (by decide) (by decide) k hk
 refine ry (bT (decide_eq_true hs)) (rs (d_leaf d spot m n h0) (rs rfl (rn hl (rs (ev_bin rfl rfl (o_addl V [nest k (leafOf spot m n).v] (Nat.le_trans (Nat.succ_le_succ hVl) (show 2≤lim by decide)))) (rs rfl (rn (if_put PV.int (x:=3 * depth) (y:=-1) (P:=depth<k∨((k:Int)=depth∧(leafOf spot m n).w.take 1=[40])) (bd (ev_or2 rfl (ev_and2 rfl (ev_cmp (ev_pre (k:=1) rfl rfl) rfl rfl))) (by rw [Bool.or_eq_true,Bool.and_eq_true,decide_eq_true_iff,beq_iff_eq,beq_iff_eq])) (fun _=>ev_bin (R:=.ok (.int (3 * depth))) rfl rfl (if_pos ⟨by decide,by omega⟩)) rfl)
  (rs (Eq.trans (to_call4 rfl rfl rfl rfl) (d_pick Part.pv z3 t_sep t_sepB (by decide) (by decide) d f (decide (spot=5)))) (rs (EL.add (x:=P) (y:=[pick z3 t_sep t_sepB f (decide (spot=5)),⟨opens k,deepAt depth k (leafOf spot m n),some (opens k)⟩,(leafOf spot m n).part,⟨closes k,-1,some (closes k)⟩]) ⟨rfl,hPl⟩ ⟨lst4 rfl (nm (ev_bin rfl rfl mO) rfl (ev_bin rfl rfl mO)) rfl (nm (ev_bin rfl rfl mC) rfl (ev_bin rfl rfl mC)),Nat.le_refl 4⟩ (by decide)).1 (r0 (rr rfl))))))))))
end
end L2
end Mine
namespace Mine
namespace L2
noncomputable def sp:Part:=⟨[32],-1,some [32]⟩
noncomputable def noOwn:Part:=⟨[],-1,none⟩
noncomputable def lrOf (spot a:Int):Part × Part :=
 if spot=6 then (if a % 5=0 then (⟨[91,93],1,none⟩,⟨[93,32],-1,some [93,32]⟩) else if a % 5=1 then (⟨[91,32],1,none⟩,⟨[93,32],-1,some [93,32]⟩)
  else if a % 5=2 then (⟨[91],-1,some [91]⟩,⟨[93,120],1,none⟩) else if a % 5=3 then (⟨[91],-1,some [91]⟩,⟨[93,32,91],2,none⟩) else (⟨[91],-1,some [91]⟩,⟨[32,93],1,none⟩))
 else (⟨[91],-1,some [91]⟩,⟨[93,32],-1,some [93,32]⟩)
noncomputable def mk (kind spot coded star a b c:Int) (body0:List Part) (vals:List PV):List Part × PV × PV :=
 let body:=if spot=9 then body0++[noOwn] else body0
 let handed:=if spot=9 then PV.dict0 else .list vals
 let tag:=pick z3 t_tag t_tagB a (decide (spot=3))
 let text:=pick z3 t_text t_textB c (decide (spot=7))
 let endp:=pick z3 t_end t_endB c (decide (spot=8))
 if kind=0 then
  let name:=pick z5 t_name t_nameB b (decide (spot=4))
  let tag':=if spot=6 then ⟨[],0,none⟩ else tag
  ([tag',sp,name.part]++(if vals≠[] then [sp]++body else body)++[endp],.tuple [.bytes tag'.w,.bytes name.w,handed],.tuple [.bytes tag'.w,.bytes name.x,.list vals])
 else if kind=1 then
  ([pick z3 t_plus t_plusB a (decide (spot=3)),text]++[endp],.tuple [.str [99,111,110,116,105,110,117,101],.bytes text.w],.tuple [.str [99,111,110,116,105,110,117,101],.bytes text.w])
 else if kind=2 then
  ([pick z3 t_star t_starB a (decide (spot=3))]++body++[endp],.tuple [.str [100,97,116,97],handed],.tuple [.str [100,97,116,97],.list vals])
 else
  let word:=pick z5 t_word t_wordB b (decide (spot=4) && decide (star=0))
  let who:=if 0<star then [] else tag.w
  let tag':=if 0<star then ⟨[42],-1,some [42]⟩ else tag
  if coded=0 then
   let text':=if text.w=[91] then ⟨[91],1,none⟩ else text
   ([tag',sp,word.part,sp]++[text']++[endp],.tuple [.str [115,116,97,116,117,115],.bytes who,.bytes word.x,.none,.bytes text'.w],.tuple [.str [115,116,97,116,117,115],.bytes who,.bytes word.x,.none,.bytes text'.w])
  else
   ([tag',sp,word.part,sp]++[(lrOf spot a).1]++body++[(lrOf spot a).2,text]++[endp],.tuple [.str [115,116,97,116,117,115],.bytes who,.bytes word.x,if spot=6 then .list [] else handed,.bytes text.w],.tuple [.str [115,116,97,116,117,115],.bytes who,.bytes word.x,.list vals,.bytes text.w])
section
variable {W:Nat}
theorem ne_nil (l:List PV):cmpP .ne (.list l) (.list [])=.ok (decide (l≠[])):=by
 cases l <;> rfl
theorem mk3 {kind:Int} (h0:kind≠0) (h1:kind≠1) (h2:kind≠2) (spot star a b c:Int) (body0:List Part) (vals:List PV):mk kind spot 0 star a b c body0 vals =
  (let text:=pick z3 t_text t_textB c (decide (spot=7))
   let tag:=pick z3 t_tag t_tagB a (decide (spot=3))
   let word:=pick z5 t_word t_wordB b (decide (spot=4) && decide (star=0))
   let who:=if 0<star then [] else tag.w
   let tag':=if 0<star then ⟨[42],-1,some [42]⟩ else tag
   let endp:=pick z3 t_end t_endB c (decide (spot=8))
   let text':=if text.w=[91] then ⟨[91],1,none⟩ else text
   ([tag',sp,word.part,sp]++[text']++[endp],.tuple [.str [115,116,97,116,117,115],.bytes who,.bytes word.x,.none,.bytes text'.w],.tuple [.str [115,116,97,116,117,115],.bytes who,.bytes word.x,.none,.bytes text'.w])):=by
 unfold mk; rw [if_neg h0,if_neg h1,if_neg h2]; rfl
theorem mk4 {kind coded:Int} (h0:kind≠0) (h1:kind≠1) (h2:kind≠2) (hc:coded≠0) (spot star a b c:Int) (body0:List Part) (vals:List PV):mk kind spot coded star a b c body0 vals =
  (let text:=pick z3 t_text t_textB c (decide (spot=7))
   let tag:=pick z3 t_tag t_tagB a (decide (spot=3))
   let word:=pick z5 t_word t_wordB b (decide (spot=4) && decide (star=0))
   let who:=if 0<star then [] else tag.w
   let tag':=if 0<star then ⟨[42],-1,some [42]⟩ else tag
   let endp:=pick z3 t_end t_endB c (decide (spot=8))
   ([tag',sp,word.part,sp]++[(lrOf spot a).1]++(if spot=9 then body0++[noOwn] else body0)++[(lrOf spot a).2,text]++[endp],.tuple [.str [115,116,97,116,117,115],.bytes who,.bytes word.x,if spot=6 then .list [] else if spot=9 then PV.dict0 else .list vals,.bytes text.w],.tuple [.str [115,116,97,116,117,115],.bytes who,.bytes word.x,.list vals,.bytes text.w])):=by
 unfold mk; rw [if_neg h0,if_neg h1,if_neg h2,if_neg hc]
theorem nx {F:Nat→List PV→Res PV} {G:Nat→Res PV} {W:Nat} {s:CS} {r:List CS} {ρ ρ':List Slot} {R:Res PV} (h:evS F G W s ρ=.ok (.next,ρ')) (k:outS (evSs F G W r ρ')=R):outS (evSs F G W (s::r) ρ)=R:=(congrArg outS (run_next h)).trans k
noncomputable def mkV (x:List Part × PV × PV):Res PV:=.ok (.tuple [.list (x.1.map Part.pv),x.2.1,x.2.2])
section
variable {F:Nat→List PV→Res PV} {G:Nat→Res PV} {ρ:List Slot} {a b c e:CE} {ts us r:List CS} {v:PV} {P:Prop} [Decidable P]
theorem ret_out (h:evE F G e ρ=.ok v):outS (evSs F G W (.ret e::r) ρ)=.ok v:=by rw [run_ret (to_ret h)]; rfl
theorem if_out {l:List PV} (hb:evE F G c ρ=.ok (.bool true)) (h:outS (evSs F G W ts ρ)=.ok (.tuple l)):outS (evSs F G W (.if_ c ts us::r) ρ)=.ok (.tuple l):=by
 rw [xSs,if_yes (b_of hb)]
 cases hx:evSs F G W ts ρ with
 | ok x =>
  obtain ⟨f,ρ'⟩:=x; rw [hx] at h
  cases f
  ·cases h
  ·cases h
  ·exact h
 | exc=>rw [hx] at h; cases h
 | stuck=>rw [hx] at h; cases h
theorem if_nx {R:Res PV} (hb:evE F G c ρ=.ok (.bool (decide P))) (hp:¬ P) (k:outS (evSs F G W r ρ)=R):outS (evSs F G W (.if_ c ts []::r) ρ)=R:=nx ((if_no (b_no hb hp)).trans run_nil) k
theorem if_put3 {α:Type} (f:α→PV) {i j k:Nat} {x y:α} {x' y':Part × Part} (hb:evE F G c ρ=.ok (.bool (decide P))) (hy:P→evSs F G W ts ρ=.ok (.next,putS (putS (putS ρ i (.val (f x))) j (.val x'.1.pv)) k (.val x'.2.pv))) (hn:putS (putS (putS ρ i (.val (f y))) j (.val y'.1.pv)) k (.val y'.2.pv)=ρ):evS F G W (.if_ c ts []) ρ=.ok (.next,putS (putS (putS ρ i (.val (f (if P then x else y)))) j (.val (if P then x' else y').1.pv)) k (.val (if P then x' else y').2.pv)) :=
 if_fun (fun a (b:Part × Part)=>putS (putS (putS ρ i (.val (f a))) j (.val b.1.pv)) k (.val b.2.pv)) hb hy hn
end
noncomputable def stK (kind spot depth size coded star:Int) (k:Nat) (m n f a b c:Int) (handed:PV) (tag text endp:Part) (body:List Part) (vals:List PV):List Slot :=
 [.val (.int kind),.val (.int spot),.val (.int depth),.val (.int size),.val (.int coded),.val (.int star),.val (.int k),.val (.int m),.val (.int n),.val (.int f),.val (.int a),.val (.int b),.val (.int c),.val handed,.val sp.pv,.val tag.pv,.val (.tuple (t_text.map Part.pv)),.val text.pv,.val (.list [endp.pv]),.unset,.unset,.unset,.unset,.val (lsP body),.val (.list vals),.unset,.unset,.unset,.unset]
noncomputable def stW (kind spot depth size coded star:Int) (k:Nat) (m n f a b c:Int) (handed:PV) (tag text endp:Part) (word:Nam) (who:List Int) (body:List Part) (vals:List PV):List Slot :=
 [.val (.int kind),.val (.int spot),.val (.int depth),.val (.int size),.val (.int coded),.val (.int star),.val (.int k),.val (.int m),.val (.int n),.val (.int f),.val (.int a),.val (.int b),.val (.int c),.val handed,.val sp.pv,.val tag.pv,.val (.tuple (t_text.map Part.pv)),.val text.pv,.val (.list [endp.pv]),.val (.tuple (t_word.map Nam.pv)),.val word.pv,.val (.bytes who),.val (lsP [tag,sp,word.part,sp]),.val (lsP body),.val (.list vals),.unset,.unset,.unset,.unset]
section
variable {d:Nat} {kind spot depth size coded star:Int} {k:Nat} {m n f a b c:Int} {handed:PV} {tag text endp:Part} {body:List Part} {vals:List PV} (hl:body.length≤11)
include hl
theorem mk_0:outS (evSs (den T G W (d+2)) G W (cf_law_make.drop 8) (stK 0 spot depth size coded star k m n f a b c handed tag text endp body vals)) =
  (let name:=pick z5 t_name t_nameB b (decide (spot=4))
   let tag':=if spot=6 then ⟨[],0,none⟩ else tag
   mkV ([tag',sp,name.part]++(if vals≠[] then [sp]++body else body)++[endp],.tuple [.bytes tag'.w,.bytes name.w,handed],.tuple [.bytes tag'.w,.bytes name.x,.list vals])) :=
 have hl':(if vals≠[] then [sp]++body else body).length≤12:=by split; (· exact Nat.succ_le_succ hl); (· exact Nat.le_succ_of_le hl)
 if_out rfl (nx (to_assign ((to_call4 rfl rfl rfl rfl).trans (d_pick Nam.pv z5 t_name t_nameB (by decide) (by decide) (d+1) b (decide (spot=4)))))
  (nx (if_put Part.pv rfl (fun _=>rfl) rfl) (nx (if_put lsP (ev_cmp rfl rfl (ne_nil vals)) (fun _=>(EL.add (x:=[sp]) (p:=1) ⟨rfl,Nat.le_refl 1⟩ ⟨rfl,hl⟩ (by decide)).1) rfl)
  (ret_out (nm (EL.add (EL.add (x:=[_,sp,Nam.part _]) (p:=3) ⟨rfl,Nat.le_refl 3⟩ ⟨rfl,hl'⟩ (by decide)) (y:=[endp]) (q:=1) ⟨rfl,Nat.le_refl 1⟩ (by decide)).1 rfl rfl)))))
omit hl in
theorem mk_1:outS (evSs (den T G W (d+2)) G W (cf_law_make.drop 9) (stK 1 spot depth size coded star k m n f a b c handed tag text endp body vals)) =
  mkV ([pick z3 t_plus t_plusB a (decide (spot=3)),text]++[endp],.tuple [.str [99,111,110,116,105,110,117,101],.bytes text.w],.tuple [.str [99,111,110,116,105,110,117,101],.bytes text.w]) :=
 if_out rfl (nx (to_assign ((to_call4 rfl rfl rfl rfl).trans (d_pick Part.pv z3 t_plus t_plusB (by decide) (by decide) (d+1) a (decide (spot=3)))))
  (ret_out (nm (EL.add (x:=[_,text]) (p:=2) ⟨rfl,Nat.le_refl 2⟩ (y:=[endp]) (q:=1) ⟨rfl,Nat.le_refl 1⟩ (by decide)).1 rfl rfl)))
theorem mk_2:outS (evSs (den T G W (d+2)) G W (cf_law_make.drop 10) (stK 2 spot depth size coded star k m n f a b c handed tag text endp body vals)) =
  mkV ([pick z3 t_star t_starB a (decide (spot=3))]++body++[endp],.tuple [.str [100,97,116,97],handed],.tuple [.str [100,97,116,97],.list vals]) :=
 if_out rfl (nx (to_assign ((to_call4 rfl rfl rfl rfl).trans (d_pick Part.pv z3 t_star t_starB (by decide) (by decide) (d+1) a (decide (spot=3)))))
  (ret_out (nm (EL.add (EL.add (x:=[_]) (p:=1) ⟨rfl,Nat.le_refl 1⟩ ⟨rfl,hl⟩ (by decide)) (y:=[endp]) (q:=1) ⟨rfl,Nat.le_refl 1⟩ (by decide)).1 rfl rfl)))
omit hl in
theorem mk_3 {R:Res PV} (h:outS (evSs (den T G W (d+2)) G W (cf_law_make.drop 16) (stW kind spot depth size coded star k m n f a b c handed (if 0<star then ⟨[42],-1,some [42]⟩ else tag) text endp (pick z5 t_word t_wordB b (decide (spot=4) && decide (star=0))) (if 0<star then [] else tag.w) body vals))=R) :
  outS (evSs (den T G W (d+2)) G W (cf_law_make.drop 11) (stK kind spot depth size coded star k m n f a b c handed tag text endp body vals))=R :=
 nx (to_assign rfl) (nx (to_assign ((to_call4 rfl rfl rfl (ev_and2 rfl rfl)).trans (d_pick Nam.pv z5 t_word t_wordB (by decide) (by decide) (d+1) b (decide (spot=4) && decide (star=0)))))
  (nx (to_assign rfl) (nx (if_put2 (i:=21) (j:=15) PV.bytes Part.pv rfl (fun _=>run_next (to_assignT (vs:=[.bytes [],(⟨[42],-1,some [42]⟩:Part).pv]) rfl rfl)) rfl)
  (nx (to_assign rfl) h))))
omit hl in
theorem mk_3a {word:Nam} {who:List Int}:outS (evSs (den T G W (d+2)) G W (cf_law_make.drop 16) (stW kind spot depth size 0 star k m n f a b c handed tag text endp word who body vals)) =
  (let text':=if text.w=[91] then ⟨[91],1,none⟩ else text
   mkV ([tag,sp,word.part,sp]++[text']++[endp],.tuple [.str [115,116,97,116,117,115],.bytes who,.bytes word.x,.none,.bytes text'.w],.tuple [.str [115,116,97,116,117,115],.bytes who,.bytes word.x,.none,.bytes text'.w])) :=
 have e:(text.w == [91])=decide (text.w=[91]):=by rw [Bool.eq_iff_iff,beq_iff_eq,decide_eq_true_iff]
 if_out rfl (nx (if_put Part.pv (congrArg (fun b=>Res.ok (PV.bool b)) e) (fun _=>rfl) rfl)
  (ret_out (nm (EL.add (EL.add (x:=[tag,sp,word.part,sp]) (p:=4) ⟨rfl,Nat.le_refl 4⟩ (y:=[_]) (q:=1) ⟨rfl,Nat.le_refl 1⟩ (by decide)) (y:=[endp]) (q:=1) ⟨rfl,Nat.le_refl 1⟩ (by decide)).1 rfl rfl)))
theorem mk_3b (hc:coded≠0) {word:Nam} {who:List Int}:outS (evSs (den T G W (d+2)) G W (cf_law_make.drop 16) (stW kind spot depth size coded star k m n f a b c handed tag text endp word who body vals)) =
  mkV ([tag,sp,word.part,sp]++[(lrOf spot a).1]++body++[(lrOf spot a).2,text]++[endp],.tuple [.str [115,116,97,116,117,115],.bytes who,.bytes word.x,if spot=6 then .list [] else handed,.bytes text.w],.tuple [.str [115,116,97,116,117,115],.bytes who,.bytes word.x,.list vals,.bytes text.w]) :=
 if_nx rfl hc (nx (to_assignT (vs:=[(⟨[91],-1,some [91]⟩:Part).pv,(⟨[93,32],-1,some [93,32]⟩:Part).pv]) rfl rfl)
  (nx (if_put3 (i:=13) (j:=27) (k:=28) (f:=id) (x:=.list []) (y:=handed) (P:=spot=6) (x':=(if a % 5=0 then (⟨[91,93],1,none⟩,⟨[93,32],-1,some [93,32]⟩) else if a % 5=1 then (⟨[91,32],1,none⟩,⟨[93,32],-1,some [93,32]⟩)
  else if a % 5=2 then (⟨[91],-1,some [91]⟩,⟨[93,120],1,none⟩) else if a % 5=3 then (⟨[91],-1,some [91]⟩,⟨[93,32,91],2,none⟩) else (⟨[91],-1,some [91]⟩,⟨[32,93],1,none⟩))) (y':=(⟨[91],-1,some [91]⟩,⟨[93,32],-1,some [93,32]⟩)) rfl
   (fun _=>(run_next (to_assign rfl)).trans (run_next (to_assignT (vs:=[_,_]) (by
     show (if 0≤a % 5 then ofI (_:List PV)[(a % 5).toNat]? else _)=_
     have ha:=Int.emod_nonneg a (show (5:Int)≠0 by decide)
     have ha2:=Int.emod_lt_of_pos a (show (0:Int)<5 by decide)
     generalize a % 5=z at ha ha2
     obtain ⟨z,rfl⟩:=Int.eq_ofNat_of_zero_le ha
     match z,ha2 with
     | 0,_=>rfl
     | 1,_=>rfl
     | 2,_=>rfl
     | 3,_=>rfl
     | 4,_=>rfl) rfl))) rfl)
  (ret_out (nm (EL.add (EL.add (EL.add (EL.add (x:=[tag,sp,word.part,sp]) (p:=4) ⟨rfl,Nat.le_refl 4⟩ (y:=[(lrOf spot a).1]) (q:=1) ⟨rfl,Nat.le_refl 1⟩ (by decide)) ⟨rfl,hl⟩ (by decide)) (y:=[(lrOf spot a).2,text]) (q:=2) ⟨rfl,Nat.le_refl 2⟩ (by decide)) (y:=[endp]) (q:=1) ⟨rfl,Nat.le_refl 1⟩ (by decide)).1 rfl rfl))))
end
theorem lst1 {F:Nat→List PV→Res PV} {G:Nat→Res PV} {ρ:List Slot} {a:CE} {x:PV} (h1:evE F G a ρ=.ok x):evE F G (.lst [a]) ρ=.ok (.list [x]):=by
 show (Res.bind (Res.bind (evE F G a ρ) _) _)=_
 rw [h1]; rfl
theorem mk_pre {d:Nat} {kind spot depth size coded star:Int} {k:Nat} {m n f a b c:Int} {body0:List Part} {vals:List PV} (hbl:body0.length≤10)
  (hv:den T G W (d+2) 31 [.int kind,.int spot,.int depth,.int size,.int k,.int m,.int n,.int f]=.ok (.tuple [lsP body0,.list vals])) {R:Res PV}
  (h:outS (evSs (den T G W (d+2)) G W (cf_law_make.drop 8) (stK kind spot depth size coded star k m n f a b c (if spot=9 then .dict0 else .list vals) (pick z3 t_tag t_tagB a (decide (spot=3))) (pick z3 t_text t_textB c (decide (spot=7))) (pick z3 t_end t_endB c (decide (spot=8))) (if spot=9 then body0++[noOwn] else body0) vals))=R) :
  outS (evSs (den T G W (d+2)) G W cf_law_make (startS vf_law_make.length 13 [.int kind,.int spot,.int depth,.int size,.int coded,.int star,.int k,.int m,.int n,.int f,.int a,.int b,.int c]))=R :=
 nx (to_assignT (vs:=[lsP body0,.list vals]) hv rfl) (nx (to_assign rfl) (nx (if_put2 (i:=23) (j:=13) lsP id rfl
   (fun _=>run_next (to_assignT (vs:=[.dict0,lsP (body0++[noOwn])]) (tup2 rfl (EL.add (x:=body0) ⟨rfl,hbl⟩ (y:=[noOwn]) (q:=1) ⟨rfl,Nat.le_refl 1⟩ (by decide)).1) rfl)) rfl)
  (nx (to_assign rfl) (nx (to_assign ((to_call4 rfl rfl rfl rfl).trans (d_pick Part.pv z3 t_tag t_tagB (by decide) (by decide) (d+1) a (decide (spot=3)))))
  (nx (to_assign rfl) (nx (to_assign ((to_call4 rfl rfl rfl rfl).trans (d_pick Part.pv z3 t_text t_textB (by decide) (by decide) (d+1) c (decide (spot=7)))))
  (nx (to_assign (lst1 ((to_call4 rfl rfl rfl rfl).trans (d_pick Part.pv z3 t_end t_endB (by decide) (by decide) (d+1) c (decide (spot=8)))))) h)))))))
theorem d_make (d:Nat) (kind spot depth size coded star:Int) (k:Nat) (hk:k≤2) (m n f a b c:Int) (h0:0≤spot) (hd0:0≤depth) (hd:depth≤3) (body0:List Part) (vals:List PV) (hbl:body0.length≤10) (hvl:vals.length≤10)
  (hv:den T G W (d+2) 31 [.int kind,.int spot,.int depth,.int size,.int k,.int m,.int n,.int f]=.ok (.tuple [.list (body0.map Part.pv),.list vals])) :
  den T G W (d+3) 32 [.int kind,.int spot,.int depth,.int size,.int coded,.int star,.int k,.int m,.int n,.int f,.int a,.int b,.int c]=mkV (mk kind spot coded star a b c body0 vals):=by
 rw [den_code (T:=T) (f:=32) (vs:=vf_law_make) (k:=13) (body:=cf_law_make) rfl rfl]
 have hl:(if spot=9 then body0++[noOwn] else body0).length≤11:=by
  split
  ·rw [List.length_append]; exact Nat.succ_le_succ hbl
  ·exact Nat.le_succ_of_le hbl
 refine mk_pre hbl hv ?_
 by_cases h0:kind=0
 ·subst h0; exact mk_0 hl
 refine if_nx rfl h0 ?_
 by_cases h1:kind=1
 ·subst h1; exact mk_1
 refine if_nx rfl h1 ?_
 by_cases h2:kind=2
 ·subst h2; exact mk_2 hl
 refine if_nx rfl h2 (mk_3 ?_)
 by_cases hc:coded=0
 ·subst hc; rw [mk3 h0 h1 h2]; exact mk_3a
 ·rw [mk4 h0 h1 h2 hc]; exact mk_3b hl hc
end
end L2
end Mine
namespace Mine
namespace L2
noncomputable def refused:PV:=.str [114,101,102,117,115,101,100]
noncomputable def wires (ps:List Part):List Int:=(ps.map Part.w).flatten
noncomputable def edgeOf:List Part→Int→Int
 | [],_=>-1
 | p::r,n=>if 0≤p.a then n+p.a else edgeOf r (n+p.w.length)
noncomputable def ownsOf:List Part→Option (List Int)
 | []=>some []
 | p::r=>match p.o,ownsOf r with
  | some b,some c=>some (b++c)
  | _,_=>none
noncomputable def canonV (ps:List Part):PV:=match ownsOf ps with
 | some b=>.bytes b
 | none=>refused
theorem o_addb' {a b:List Int} (h:a.length+b.length≤lim):binP .add (.bytes a) (.bytes b)=.ok (.bytes (a++b)):=by rw [o_addb,if_pos h]
theorem owns_chunks:∀ (ps:List Part),(match ownsOf ps with
  | some b=>∃ cs,chunksOf (ps.map fun p=>ownV p.o)=some cs∧glue [] cs=b∧memD 12 .none (ps.map fun p=>ownV p.o)=some false
  | none=>memD 12 .none (ps.map fun p=>ownV p.o)=some true)
 | []=>⟨[],rfl,rfl,rfl⟩
 | p::r=>by
  have ih:=owns_chunks r
  rw [ownsOf,List.map_cons,memD]
  cases ho:p.o with
  | none =>
   have e:eqD 12 (ownV none) .none=some true:=rfl
   simp only [e]
   cases hr:ownsOf r with
   | none=>rw [hr] at ih; simp only [ih]; rfl
   | some b=>rw [hr] at ih; obtain ⟨cs,_,_,h3⟩:=ih; simp only [h3]; rfl
  | some b =>
   have e:eqD 12 (ownV (some b)) .none=some false:=rfl
   simp only [e]
   cases hr:ownsOf r with
   | none=>rw [hr] at ih; simp only [ih]; rfl
   | some c =>
    rw [hr] at ih
    obtain ⟨cs,h1,h2,h3⟩:=ih
    refine ⟨b::cs,?_,?_,by simp only [h3]; rfl⟩
    ·show (chunksOf (r.map fun p=>ownV p.o)).map (b::·)=some (b::cs)
     rw [h1]; rfl
    ·cases cs with
     | nil=>rw [← h2]; simp [glue]
     | cons x y=>rw [← h2]; simp [glue]
section
variable {W:Nat}
theorem join_loop (d:Nat) (ps0:PV):∀ (ps:List Part) (da:List Int) (e:Int) (s4 s5 s6:Slot),(da++wires ps).length≤4000→∃ s4' s5' s6',
  forN (fun ρ v=>(unpackP [4,5,6].length v).bind fun vs=>.ok (putsS ρ [4,5,6] vs)) (fun ρ=>evSs (den T G W d) G W [.if_ (.and_ [(.cmp .ge (.var 5) (.lit (.int 0))),(.cmp .lt (.var 3) (.lit (.int 0)))]) [.assign 3 (.bin .add (.len (.var 2)) (.var 5))] [],.assign 2 (.bin .add (.var 2) (.var 4))] ρ) (ps.map Part.pv) [.val ps0,.unset,.val (.bytes da),.val (.int e),s4,s5,s6] =
   .ok (.next,[.val ps0,.unset,.val (.bytes (da++wires ps)),.val (.int (if e<0 then (if edgeOf ps da.length<0 then e else edgeOf ps da.length) else e)),s4',s5',s6'])
 | [],da,e,s4,s5,s6,_=>⟨s4,s5,s6,by simp [f_nil,wires,edgeOf]⟩
 | p::r,da,e,s4,s5,s6,hl=>by
  have hw:wires (p::r)=p.w++wires r:=by simp [wires]
  rw [hw] at hl
  have hl2:(da++p.w++wires r).length≤4000:=by rw [List.append_assoc]; exact hl
  have hz:da.length+p.w.length≤lim:=by simp only [List.length_append,lim] at hl ⊢; lia
  obtain ⟨a4,a5,a6,ih⟩:=join_loop d ps0 r (da++p.w) (if 0≤p.a∧e<0 then (da.length:Int)+p.a else e) (.val (.bytes p.w)) (.val (.int p.a)) (.val (ownV p.o)) hl2
  refine ⟨a4,a5,a6,?_⟩
  rw [List.map_cons,f_cons]
  have hset:((unpackP [4,5,6].length p.pv).bind fun vs=>Res.ok (putsS [.val ps0,.unset,.val (.bytes da),.val (.int e),s4,s5,s6] [4,5,6] vs))=.ok [.val ps0,.unset,.val (.bytes da),.val (.int e),.val (.bytes p.w),.val (.int p.a),.val (ownV p.o)]:=rfl
  rw [hset,b_ok]
  have hb:evSs (den T G W d) G W [.if_ (.and_ [(.cmp .ge (.var 5) (.lit (.int 0))),(.cmp .lt (.var 3) (.lit (.int 0)))]) [.assign 3 (.bin .add (.len (.var 2)) (.var 5))] [],.assign 2 (.bin .add (.var 2) (.var 4))] [.val ps0,.unset,.val (.bytes da),.val (.int e),.val (.bytes p.w),.val (.int p.a),.val (ownV p.o)] =
    .ok (.next,[.val ps0,.unset,.val (.bytes (da++p.w)),.val (.int (if 0≤p.a∧e<0 then (da.length:Int)+p.a else e)),.val (.bytes p.w),.val (.int p.a),.val (ownV p.o)]):=by
   by_cases hc:0≤p.a∧e<0
   ·rw [run_next ((if_yes (b_of (by (first | rfl | simp only [xnil,xSs,xfrz,xset,xown,xsetT,xaug,xapp,xexpr,xret,xif,xwhile,xfor,xforT,xraise,xtry,xbrk,xB,xlit,xneg,xvar,xglob,xsf,xtup,xlst,xdict,xbin,xcmp,xcmp2,xand,xor,xnot,xite,xidx,xslc,xcall,xlen,xisin,xisin1,xmkB,xtyp,xjoin,xcomp,xE,xE1,xO,xO1,xA1,xA2,xR1,xR2,xg0,xg1,xp0,xp1,b_ok,b_exc,b_stuck,c_eqi,c_nei,c_lti,c_lei,c_gti,c_gei,c_eqb,c_neb,c_eqs,c_nes,c_is,c_isNot,c_in,c_notIn,c_notInB,t_none,t_bool,t_int,o_addi,o_subi,o_modi,u_addi,l_b,l_t,l_l,i_t0,i_t1,e_none,s_b,r_ret,r_next,r_exc,r_stuck,it_b,it_t,it_l,f_nil,if_true,if_false,Bool.false_eq_true,Bool.true_eq_false,Bool.not_true,Bool.not_false,reduceIte,isNone,len_c,len_n,lim,Nat.reduceAdd,Nat.reduceLeDiff,ge_iff_le,hc.1,hc.2,decide_true])))).trans ((run_next (to_assign (v:=.int ((da.length:Int)+p.a)) (by first | rfl | simp only [xnil,xSs,xfrz,xset,xown,xsetT,xaug,xapp,xexpr,xret,xif,xwhile,xfor,xforT,xraise,xtry,xbrk,xB,xlit,xneg,xvar,xglob,xsf,xtup,xlst,xdict,xbin,xcmp,xcmp2,xand,xor,xnot,xite,xidx,xslc,xcall,xlen,xisin,xisin1,xmkB,xtyp,xjoin,xcomp,xE,xE1,xO,xO1,xA1,xA2,xR1,xR2,xg0,xg1,xp0,xp1,b_ok,b_exc,b_stuck,c_eqi,c_nei,c_lti,c_lei,c_gti,c_gei,c_eqb,c_neb,c_eqs,c_nes,c_is,c_isNot,c_in,c_notIn,c_notInB,t_none,t_bool,t_int,o_addi,o_subi,o_modi,u_addi,l_b,l_t,l_l,i_t0,i_t1,e_none,s_b,r_ret,r_next,r_exc,r_stuck,it_b,it_t,it_l,f_nil,if_true,if_false,Bool.false_eq_true,Bool.true_eq_false,Bool.not_true,Bool.not_false,reduceIte,isNone,len_c,len_n,lim,Nat.reduceAdd,Nat.reduceLeDiff,ge_iff_le]))).trans run_nil))]
    simp only [xp0,xp1]
    rw [run_next (to_assign (v:=.bytes (da++p.w)) (by simp only [xnil,xSs,xfrz,xset,xown,xsetT,xaug,xapp,xexpr,xret,xif,xwhile,xfor,xforT,xraise,xtry,xbrk,xB,xlit,xneg,xvar,xglob,xsf,xtup,xlst,xdict,xbin,xcmp,xcmp2,xand,xor,xnot,xite,xidx,xslc,xcall,xlen,xisin,xisin1,xmkB,xtyp,xjoin,xcomp,xE,xE1,xO,xO1,xA1,xA2,xR1,xR2,xg0,xg1,xp0,xp1,b_ok,b_exc,b_stuck,c_eqi,c_nei,c_lti,c_lei,c_gti,c_gei,c_eqb,c_neb,c_eqs,c_nes,c_is,c_isNot,c_in,c_notIn,c_notInB,t_none,t_bool,t_int,o_addi,o_subi,o_modi,u_addi,l_b,l_t,l_l,i_t0,i_t1,e_none,s_b,r_ret,r_next,r_exc,r_stuck,it_b,it_t,it_l,f_nil,if_true,if_false,Bool.false_eq_true,Bool.true_eq_false,Bool.not_true,Bool.not_false,reduceIte,isNone,len_c,len_n]; exact o_addb' hz)),run_nil]
    simp only [xp0,xp1,if_pos hc]
   ·have ec:evB (den T G W d) G (.and_ [(.cmp .ge (.var 5) (.lit (.int 0))),(.cmp .lt (.var 3) (.lit (.int 0)))]) [.val ps0,.unset,.val (.bytes da),.val (.int e),.val (.bytes p.w),.val (.int p.a),.val (ownV p.o)]=.ok false:=by
     simp only [xnil,xSs,xfrz,xset,xown,xsetT,xaug,xapp,xexpr,xret,xif,xwhile,xfor,xforT,xraise,xtry,xbrk,xB,xlit,xneg,xvar,xglob,xsf,xtup,xlst,xdict,xbin,xcmp,xcmp2,xand,xor,xnot,xite,xidx,xslc,xcall,xlen,xisin,xisin1,xmkB,xtyp,xjoin,xcomp,xE,xE1,xO,xO1,xA1,xA2,xR1,xR2,xg0,xg1,xp0,xp1,b_ok,b_exc,b_stuck,c_eqi,c_nei,c_lti,c_lei,c_gti,c_gei,c_eqb,c_neb,c_eqs,c_nes,c_is,c_isNot,c_in,c_notIn,c_notInB,t_none,t_bool,t_int,o_addi,o_subi,o_modi,u_addi,l_b,l_t,l_l,i_t0,i_t1,e_none,s_b,r_ret,r_next,r_exc,r_stuck,it_b,it_t,it_l,f_nil,if_true,if_false,Bool.false_eq_true,Bool.true_eq_false,Bool.not_true,Bool.not_false,reduceIte,isNone,len_c,len_n,lim,Nat.reduceAdd,Nat.reduceLeDiff,ge_iff_le]
     by_cases h1:0≤p.a
     ·have h2:¬ e<0:=fun h=>hc ⟨h1,h⟩
      simp only [h1,h2,decide_true,decide_false,xnil,xSs,xfrz,xset,xown,xsetT,xaug,xapp,xexpr,xret,xif,xwhile,xfor,xforT,xraise,xtry,xbrk,xB,xlit,xneg,xvar,xglob,xsf,xtup,xlst,xdict,xbin,xcmp,xcmp2,xand,xor,xnot,xite,xidx,xslc,xcall,xlen,xisin,xisin1,xmkB,xtyp,xjoin,xcomp,xE,xE1,xO,xO1,xA1,xA2,xR1,xR2,xg0,xg1,xp0,xp1,b_ok,b_exc,b_stuck,c_eqi,c_nei,c_lti,c_lei,c_gti,c_gei,c_eqb,c_neb,c_eqs,c_nes,c_is,c_isNot,c_in,c_notIn,c_notInB,t_none,t_bool,t_int,o_addi,o_subi,o_modi,u_addi,l_b,l_t,l_l,i_t0,i_t1,e_none,s_b,r_ret,r_next,r_exc,r_stuck,it_b,it_t,it_l,f_nil,if_true,if_false,Bool.false_eq_true,Bool.true_eq_false,Bool.not_true,Bool.not_false,reduceIte,isNone,len_c,len_n,lim,Nat.reduceAdd,Nat.reduceLeDiff,ge_iff_le]
     ·simp only [h1,decide_false,xnil,xSs,xfrz,xset,xown,xsetT,xaug,xapp,xexpr,xret,xif,xwhile,xfor,xforT,xraise,xtry,xbrk,xB,xlit,xneg,xvar,xglob,xsf,xtup,xlst,xdict,xbin,xcmp,xcmp2,xand,xor,xnot,xite,xidx,xslc,xcall,xlen,xisin,xisin1,xmkB,xtyp,xjoin,xcomp,xE,xE1,xO,xO1,xA1,xA2,xR1,xR2,xg0,xg1,xp0,xp1,b_ok,b_exc,b_stuck,c_eqi,c_nei,c_lti,c_lei,c_gti,c_gei,c_eqb,c_neb,c_eqs,c_nes,c_is,c_isNot,c_in,c_notIn,c_notInB,t_none,t_bool,t_int,o_addi,o_subi,o_modi,u_addi,l_b,l_t,l_l,i_t0,i_t1,e_none,s_b,r_ret,r_next,r_exc,r_stuck,it_b,it_t,it_l,f_nil,if_true,if_false,Bool.false_eq_true,Bool.true_eq_false,Bool.not_true,Bool.not_false,reduceIte,isNone,len_c,len_n,lim,Nat.reduceAdd,Nat.reduceLeDiff,ge_iff_le]
    rw [run_next ((if_no ec).trans run_nil),run_next (to_assign (v:=.bytes (da++p.w)) (by simp only [xnil,xSs,xfrz,xset,xown,xsetT,xaug,xapp,xexpr,xret,xif,xwhile,xfor,xforT,xraise,xtry,xbrk,xB,xlit,xneg,xvar,xglob,xsf,xtup,xlst,xdict,xbin,xcmp,xcmp2,xand,xor,xnot,xite,xidx,xslc,xcall,xlen,xisin,xisin1,xmkB,xtyp,xjoin,xcomp,xE,xE1,xO,xO1,xA1,xA2,xR1,xR2,xg0,xg1,xp0,xp1,b_ok,b_exc,b_stuck,c_eqi,c_nei,c_lti,c_lei,c_gti,c_gei,c_eqb,c_neb,c_eqs,c_nes,c_is,c_isNot,c_in,c_notIn,c_notInB,t_none,t_bool,t_int,o_addi,o_subi,o_modi,u_addi,l_b,l_t,l_l,i_t0,i_t1,e_none,s_b,r_ret,r_next,r_exc,r_stuck,it_b,it_t,it_l,f_nil,if_true,if_false,Bool.false_eq_true,Bool.true_eq_false,Bool.not_true,Bool.not_false,reduceIte,isNone,len_c,len_n]; exact o_addb' hz)),run_nil]
    simp only [xp0,xp1,if_neg hc]
  rw [hb]
  simp only
  rw [ih,hw,List.append_assoc]
  congr 6
  rw [edgeOf,List.length_append]
  by_cases h1:0≤p.a <;> by_cases h2:e<0
  ·simp only [h1,h2,and_self,if_true]
   have h3:¬ (da.length:Int)+p.a<0:=by lia
   rw [if_neg h3,if_neg h3]
  ·simp only [h1,h2,and_false,if_false,if_true]
  ·simp only [h1,h2,false_and,if_false,if_true]
   congr 2
  ·simp only [h1,h2,false_and,if_false]
theorem d_join (d:Nat) (ps:List Part) (hl:(wires ps).length≤4000) (ho:∀ b,ownsOf ps=some b→b.length≤4000) (hn:ps.length≤100) :
  den T G W (d+1) 33 [.list (ps.map Part.pv)]=.ok (.tuple [.bytes (wires ps),.int (if edgeOf ps 0<0 then -1 else edgeOf ps 0),canonV ps]):=by
 rw [den_code (T:=T) (f:=33) (vs:=vf_law_join) (k:=1) (body:=cf_law_join) rfl rfl]
 show outS (evSs _ _ _ cf_law_join [.val (.list (ps.map Part.pv)),.unset,.unset,.unset,.unset,.unset,.unset])=_
 rw [cf_law_join,run_next (to_assignT (vs:=[.bytes [],.int (-1)]) rfl rfl)]
 simp only [Bool.false_eq_true,if_false,putsS,xp0,xp1]
 obtain ⟨s4,s5,s6,h⟩:=join_loop (W:=W) d (.list (ps.map Part.pv)) ps [] (-1) .unset .unset .unset (by simpa using hl)
 simp only [List.nil_append,List.length_nil] at h
 have e1:(-1:Int)<0:=by decide
 rw [if_pos e1] at h
 rw [run_next (by simp only [xfrz,xset,xown,xsetT,xaug,xapp,xexpr,xret,xif,xwhile,xfor,xforT,xraise,xtry,xbrk,xlit,xneg,xvar,xglob,xsf,xtup,xlst,xdict,xbin,xcmp,xcmp2,xand,xor,xnot,xite,xidx,xslc,xcall,xlen,xisin,xisin1,xmkB,xtyp,xjoin,xcomp,xg0,xg1,b_ok,it_l]; exact h)]
 have hm:mapR (fun v=>evE (den T G W d) G (.idx (.var 0) (.lit (.int 2))) [.val v]) (ps.map Part.pv)=.ok (ps.map fun p=>ownV p.o):=by
  clear h hl ho hn
  induction ps with
  | nil=>rfl
  | cons p r ih =>
   rw [List.map_cons,mapR,ih]
   have:evE (den T G W d) G (.idx (.var 0) (.lit (.int 2))) [.val p.pv]=.ok (ownV p.o):=rfl
   rw [this]; rfl
 have e0:((0:Nat):Int)=0:=rfl
 rw [run_next (to_assign (v:=.list (ps.map fun p=>ownV p.o)) (by rw [xcomp,xvar]; simp only [xg0,xg1,b_ok,it_l,hm]))]
 simp only [xp0,xp1]
 have hoc:=owns_chunks ps
 unfold canonV
 have hin:∀ b,memD 12 .none (ps.map fun p=>ownV p.o)=some b→∀ ρ,getS ρ 1=.val (.list (ps.map fun p=>ownV p.o))→evB (den T G W d) G (.cmp .in_ (.lit .none) (.var 1)) ρ=.ok b:=by
  intro b hb ρ hρ
  refine b_of ?_
  rw [xcmp,xlit,xvar,hρ]
  simp only [b_ok]
  show (ofO (memD 12 .none (ps.map fun p=>ownV p.o))).bind _=_
  rw [hb]; rfl
 cases hoo:ownsOf ps with
 | none =>
  rw [hoo] at hoc
  rw [run_ret ((if_yes (hin true hoc _ rfl)).trans (run_ret (to_ret (v:=.tuple [.bytes (wires ps),.int (if edgeOf ps 0<0 then -1 else edgeOf ps 0),refused]) rfl)))]
  rfl
 | some b =>
  rw [hoo] at hoc
  obtain ⟨cs,h1,h2,h3⟩:=hoc
  rw [run_next ((if_no (hin false h3 _ rfl)).trans run_nil),xSs,xret]
  have hj:joinP (.bytes []) (.list (ps.map fun p=>ownV p.o))=.ok (.bytes b):=by
   simp only [joinP,h1]
   rw [if_pos ⟨by rw [List.length_map]; simp only [lim]; lia,by rw [h2]; have:=ho b hoo; simp only [lim]; lia⟩,h2]
  simp only [xnil,xSs,xfrz,xset,xown,xsetT,xaug,xapp,xexpr,xret,xif,xwhile,xfor,xforT,xraise,xtry,xbrk,xB,xlit,xneg,xvar,xglob,xsf,xtup,xlst,xdict,xbin,xcmp,xcmp2,xand,xor,xnot,xite,xidx,xslc,xcall,xlen,xisin,xisin1,xmkB,xtyp,xjoin,xcomp,xE,xE1,xO,xO1,xA1,xA2,xR1,xR2,xg0,xg1,xp0,xp1,b_ok,b_exc,b_stuck,c_eqi,c_nei,c_lti,c_lei,c_gti,c_gei,c_eqb,c_neb,c_eqs,c_nes,c_is,c_isNot,c_in,c_notIn,c_notInB,t_none,t_bool,t_int,o_addi,o_subi,o_modi,u_addi,l_b,l_t,l_l,i_t0,i_t1,e_none,s_b,r_ret,r_next,r_exc,r_stuck,it_b,it_t,it_l,f_nil,if_true,if_false,Bool.false_eq_true,Bool.true_eq_false,Bool.not_true,Bool.not_false,reduceIte,isNone,len_c,len_n,lim,Nat.reduceAdd,Nat.reduceLeDiff,ge_iff_le,hj]
  rfl
noncomputable def told:Res PV→Res PV
 | .ok v=>.ok v
 | .exc=>.ok refused
 | .stuck=>.stuck
theorem d_law_read (d:Nat) (kind:Int) (l:List Int) (dep:Int) (r:Res PV) (h:(if kind=0 then den T G W d 28 [.bytes l,.int dep] else den T G W d 26 [.bytes l,.int dep])=r) :
  den T G W (d+1) 35 [.int kind,.bytes l,.int dep]=told r:=by
 rw [den_code (T:=T) (f:=35) (vs:=vf_law_read) (k:=3) (body:=cf_law_read) rfl rfl]
 show outS (evSs _ _ _ cf_law_read [.val (.int kind),.val (.bytes l),.val (.int dep),.unset])=_
 have he:evE (den T G W d) G (.ite (.cmp .eq (.var 0) (.lit (.int 0))) (.call 28 [(.var 1),(.var 2)]) (.call 26 [(.var 1),(.var 2)])) [.val (.int kind),.val (.bytes l),.val (.int dep),.unset]=r:=by
  by_cases h0:kind=0
  ·subst h0; rw [if_pos rfl] at h; simp only [xnil,xSs,xfrz,xset,xown,xsetT,xaug,xapp,xexpr,xret,xif,xwhile,xfor,xforT,xraise,xtry,xbrk,xB,xlit,xneg,xvar,xglob,xsf,xtup,xlst,xdict,xbin,xcmp,xcmp2,xand,xor,xnot,xite,xidx,xslc,xcall,xlen,xisin,xisin1,xmkB,xtyp,xjoin,xcomp,xE,xE1,xO,xO1,xA1,xA2,xR1,xR2,xg0,xg1,xp0,xp1,b_ok,b_exc,b_stuck,c_eqi,c_nei,c_lti,c_lei,c_gti,c_gei,c_eqb,c_neb,c_eqs,c_nes,c_is,c_isNot,c_in,c_notIn,c_notInB,t_none,t_bool,t_int,o_addi,o_subi,o_modi,u_addi,l_b,l_t,l_l,i_t0,i_t1,e_none,s_b,r_ret,r_next,r_exc,r_stuck,it_b,it_t,it_l,f_nil,if_true,if_false,Bool.false_eq_true,Bool.true_eq_false,Bool.not_true,Bool.not_false,reduceIte,isNone,len_c,len_n,lim,Nat.reduceAdd,Nat.reduceLeDiff,ge_iff_le,beq_self_eq_true]; exact h
  ·have b0:(kind == 0)=false:=by rw [beq_eq_false_iff_ne]; exact h0
   rw [if_neg h0] at h; simp only [xnil,xSs,xfrz,xset,xown,xsetT,xaug,xapp,xexpr,xret,xif,xwhile,xfor,xforT,xraise,xtry,xbrk,xB,xlit,xneg,xvar,xglob,xsf,xtup,xlst,xdict,xbin,xcmp,xcmp2,xand,xor,xnot,xite,xidx,xslc,xcall,xlen,xisin,xisin1,xmkB,xtyp,xjoin,xcomp,xE,xE1,xO,xO1,xA1,xA2,xR1,xR2,xg0,xg1,xp0,xp1,b_ok,b_exc,b_stuck,c_eqi,c_nei,c_lti,c_lei,c_gti,c_gei,c_eqb,c_neb,c_eqs,c_nes,c_is,c_isNot,c_in,c_notIn,c_notInB,t_none,t_bool,t_int,o_addi,o_subi,o_modi,u_addi,l_b,l_t,l_l,i_t0,i_t1,e_none,s_b,r_ret,r_next,r_exc,r_stuck,it_b,it_t,it_l,f_nil,if_true,if_false,Bool.false_eq_true,Bool.true_eq_false,Bool.not_true,Bool.not_false,reduceIte,isNone,len_c,len_n,lim,Nat.reduceAdd,Nat.reduceLeDiff,ge_iff_le,b0]; exact h
 rw [cf_law_read]
 cases r with
 | ok v=>rw [run_next (ρ':=[.val (.int kind),.val (.bytes l),.val (.int dep),.val v]) (by rw [xtry,he]; rfl),xSs,xret]; rfl
 | exc=>rw [run_next (ρ':=[.val (.int kind),.val (.bytes l),.val (.int dep),.val refused]) (by rw [xtry,he]; rfl),xSs,xret]; rfl
 | stuck=>rw [run_stuck (by rw [xtry,he])]; rfl
theorem d_law_write (d:Nat) (kind:Int) (l:PV) (r:Res PV) (h:(if kind=0 then den T G W d 27 [l] else den T G W d 23 [l])=r) :
  den T G W (d+1) 34 [.int kind,l]=told r:=by
 rw [den_code (T:=T) (f:=34) (vs:=vf_law_write) (k:=2) (body:=cf_law_write) rfl rfl]
 show outS (evSs _ _ _ cf_law_write [.val (.int kind),.val l,.unset])=_
 have he:evE (den T G W d) G (.ite (.cmp .eq (.var 0) (.lit (.int 0))) (.call 27 [(.var 1)]) (.call 23 [(.var 1)])) [.val (.int kind),.val l,.unset]=r:=by
  by_cases h0:kind=0
  ·subst h0; rw [if_pos rfl] at h; simp only [xnil,xSs,xfrz,xset,xown,xsetT,xaug,xapp,xexpr,xret,xif,xwhile,xfor,xforT,xraise,xtry,xbrk,xB,xlit,xneg,xvar,xglob,xsf,xtup,xlst,xdict,xbin,xcmp,xcmp2,xand,xor,xnot,xite,xidx,xslc,xcall,xlen,xisin,xisin1,xmkB,xtyp,xjoin,xcomp,xE,xE1,xO,xO1,xA1,xA2,xR1,xR2,xg0,xg1,xp0,xp1,b_ok,b_exc,b_stuck,c_eqi,c_nei,c_lti,c_lei,c_gti,c_gei,c_eqb,c_neb,c_eqs,c_nes,c_is,c_isNot,c_in,c_notIn,c_notInB,t_none,t_bool,t_int,o_addi,o_subi,o_modi,u_addi,l_b,l_t,l_l,i_t0,i_t1,e_none,s_b,r_ret,r_next,r_exc,r_stuck,it_b,it_t,it_l,f_nil,if_true,if_false,Bool.false_eq_true,Bool.true_eq_false,Bool.not_true,Bool.not_false,reduceIte,isNone,len_c,len_n,lim,Nat.reduceAdd,Nat.reduceLeDiff,ge_iff_le,beq_self_eq_true]; exact h
  ·have b0:(kind == 0)=false:=by rw [beq_eq_false_iff_ne]; exact h0
   rw [if_neg h0] at h; simp only [xnil,xSs,xfrz,xset,xown,xsetT,xaug,xapp,xexpr,xret,xif,xwhile,xfor,xforT,xraise,xtry,xbrk,xB,xlit,xneg,xvar,xglob,xsf,xtup,xlst,xdict,xbin,xcmp,xcmp2,xand,xor,xnot,xite,xidx,xslc,xcall,xlen,xisin,xisin1,xmkB,xtyp,xjoin,xcomp,xE,xE1,xO,xO1,xA1,xA2,xR1,xR2,xg0,xg1,xp0,xp1,b_ok,b_exc,b_stuck,c_eqi,c_nei,c_lti,c_lei,c_gti,c_gei,c_eqb,c_neb,c_eqs,c_nes,c_is,c_isNot,c_in,c_notIn,c_notInB,t_none,t_bool,t_int,o_addi,o_subi,o_modi,u_addi,l_b,l_t,l_l,i_t0,i_t1,e_none,s_b,r_ret,r_next,r_exc,r_stuck,it_b,it_t,it_l,f_nil,if_true,if_false,Bool.false_eq_true,Bool.true_eq_false,Bool.not_true,Bool.not_false,reduceIte,isNone,len_c,len_n,lim,Nat.reduceAdd,Nat.reduceLeDiff,ge_iff_le,b0]; exact h
 rw [cf_law_write]
 cases r with
 | ok v=>rw [run_next (ρ':=[.val (.int kind),.val l,.val v]) (by rw [xtry,he]; rfl),xSs,xret]; rfl
 | exc=>rw [run_next (ρ':=[.val (.int kind),.val l,.val refused]) (by rw [xtry,he]; rfl),xSs,xret]; rfl
 | stuck=>rw [run_stuck (by rw [xtry,he])]; rfl
end
end L2
end Mine
namespace Mine
namespace L2
noncomputable def NumOk (v:PV):Prop:=∃ s rest,v=.tuple (.str s::rest)∧(s=[110,117,109,98,101,114]→∃ i t,rest=.int i::t)
noncomputable def k9 (x:Int):Int:=if x % 9<3 then 0 else if x % 9=3 then 1 else if x % 9<6 then 2 else 3
structure ReadOk (rd:List Int→Res PV) (data:List Int) (e:Int) (due:PV):Prop where
 len:data.length≤3000
 good:e<0→data≠[]∧(∀ n,n<data.length→rd (data.take n)=.ok .none)∧rd data=.ok (.tuple [due,.int data.length])∧rd (data++[32,40,13,10])=.ok (.tuple [due,.int data.length])
 bad:0≤e→e<data.length∧(∀ n:Nat,(n:Int)≤e→rd (data.take n)=.ok .none)∧rd (data.take (e+1).toNat)=.exc∧rd (data++[32,40,13,10])=.exc
noncomputable def lawTail:List CS:=[.assign 7 (.lit (.str [114,101,102,117,115,101,100])),.if_ (.cmp .lt (.var 18) (.lit (.int 0))) [.assignT true [18,7] (.tup [(.bin .sub (.len (.var 17)) (.lit (.int 1))),(.tup [(.var 16),(.len (.var 17))])])] [],.for_ 8 (.tup [(.bin .mod (.idx (.var 0) (.lit (.int 13))) (.bin .add (.var 18) (.lit (.int 1)))),(.var 18)]) [.if_ (.cmp .isNot (.call 35 [(.var 1),(.slc (.var 17) none (some (.var 8))),(.var 3)]) (.lit .none)) [.ret (.lit (.bool false))] []],.for_ 9 (.tup [(.slc (.var 17) none (some (.bin .add (.var 18) (.lit (.int 1))))),(.bin .add (.var 17) (.lit (.bytes [32,40,13,10])))]) [.assign 6 (.call 35 [(.var 1),(.var 9),(.var 3)]),.if_ (.cmp .ne (.var 6) (.var 7)) [.ret (.lit (.bool false))] []],.if_ (.cmp .eq (.var 7) (.lit (.str [114,101,102,117,115,101,100]))) [.ret (.lit (.bool true))] [],.if_ (.not_ (.typeIs (.idx (.var 6) (.lit (.int 1))) .int)) [.ret (.lit (.bool false))] [],.if_ (.cmp .eq (.bin .mod (.var 1) (.lit (.int 2))) (.lit (.int 0))) [.for_ 20 (.idx (.idx (.var 6) (.lit (.int 0))) (.neg 1)) [.if_ (.and_ [(.cmp .eq (.idx (.var 20) (.lit (.int 0))) (.lit (.str [110,117,109,98,101,114]))),(.not_ (.typeIs (.idx (.var 20) (.lit (.int 1))) .int))]) [.ret (.lit (.bool false))] []]] [],.ret (.lit (.bool true))]
theorem ne_same {a:List PV} (h:eqD 12 (.tuple a) (.tuple a)=some true):cmpP .ne (.tuple a) (.tuple a)=.ok false:=by
 show (if true=true then ofO ((eqD 12 (.tuple a) (.tuple a)).map (!·)) else Res.stuck)=_
 rw [if_pos rfl,h]; rfl
theorem last_idx (pre:List PV) (v:PV):idxP (.tuple (pre++[v])) (.int (-((1:Nat):Int)))=.ok v:=by
 have h1:¬ (0:Int)≤-((1:Nat):Int):=by lia
 have h2:-(((pre++[v]).length:Nat):Int)≤-((1:Nat):Int):=by simp only [List.length_append,List.length_cons,List.length_nil]; lia
 have h3:(((pre++[v]).length:Int)+-((1:Nat):Int)).toNat=pre.length:=by simp only [List.length_append,List.length_cons,List.length_nil]; lia
 simp only [idxP]
 rw [if_neg h1,if_pos h2,h3,List.getElem?_append_right (Nat.le_refl _),Nat.sub_self]
 rfl
section
variable {W:Nat}
theorem num_loop (d:Nat) (ρ0:List Slot) (h20:ρ0.length=20):∀ (vs:List PV) (s:Slot),(∀ v∈vs,NumOk v)→∃ s',forN (fun ρ v=>.ok (putS ρ 20 (.val v))) (fun ρ=>evSs (den T G W d) G W [.if_ (.and_ [(.cmp .eq (.idx (.var 20) (.lit (.int 0))) (.lit (.str [110,117,109,98,101,114]))),(.not_ (.typeIs (.idx (.var 20) (.lit (.int 1))) .int))]) [.ret (.lit (.bool false))] []] ρ) vs (ρ0++[s])=.ok (.next,ρ0++[s'])
 | [],s,_=>⟨s,rfl⟩
 | v::r,s,h=>by
  have hput:∀ x,putS (ρ0++[s]) 20 x=ρ0++[x]:=by
   intro x
   have:∀ (l:List Slot) (n:Nat),l.length=n→putS (l++[s]) n x=l++[x]:=by
    intro l
    induction l with
    | nil=>intro n hn; subst hn; rfl
    | cons a t ih=>intro n hn; subst hn; show a::putS (t++[s]) t.length x=_; rw [ih _ rfl]; rfl
   exact this ρ0 20 h20
  have hget:getS (ρ0++[.val v]) 20=.val v:=by
   have:∀ (l:List Slot) (n:Nat),l.length=n→getS (l++[.val v]) n=.val v:=by
    intro l
    induction l with
    | nil=>intro n hn; subst hn; rfl
    | cons a t ih=>intro n hn; subst hn; exact ih _ rfl
   exact this ρ0 20 h20
  obtain ⟨s',ih⟩:=num_loop d ρ0 h20 r (.val v) (fun x hx=>h x (by simp [hx]))
  refine ⟨s',?_⟩
  rw [f_cons,hput,b_ok]
  obtain ⟨st,rest,rfl,hn⟩:=h v (by simp)
  have ec:evB (den T G W d) G (.and_ [(.cmp .eq (.idx (.var 20) (.lit (.int 0))) (.lit (.str [110,117,109,98,101,114]))),(.not_ (.typeIs (.idx (.var 20) (.lit (.int 1))) .int))]) (ρ0++[.val (.tuple (.str st::rest))])=.ok false:=by
   by_cases hs:st=[110,117,109,98,101,114]
   ·obtain ⟨i,t,rfl⟩:=hn hs
    subst hs
    simp only [xB,xlit,xneg,xvar,xglob,xsf,xtup,xlst,xdict,xbin,xcmp,xcmp2,xand,xor,xnot,xite,xidx,xslc,xcall,xlen,xisin,xisin1,xmkB,xtyp,xjoin,xcomp,xA1,xA2,hget,b_ok,i_t0,i_t1,c_eqs,t_bool,beq_self_eq_true,if_true,isP,Bool.not_true]
   ·have hb:(st == [110,117,109,98,101,114])=false:=by rw [beq_eq_false_iff_ne]; exact hs
    simp only [xB,xlit,xneg,xvar,xglob,xsf,xtup,xlst,xdict,xbin,xcmp,xcmp2,xand,xor,xnot,xite,xidx,xslc,xcall,xlen,xisin,xisin1,xmkB,xtyp,xjoin,xcomp,xA1,xA2,hget,b_ok,i_t0,c_eqs,t_bool,hb,Bool.false_eq_true,if_false]
  rw [run_next ((if_no ec).trans run_nil),run_nil]
  exact ih
theorem tail_true (d:Nat) (xs:List Int) (kind spot depth size coded star k:Int) (x13:Int) (hx:xs[13]?=some x13) (twin handed got:PV) (parts line due:PV) (data:List Int) (e:Int) (canon:PV) (rd:List Int→Res PV)
  (hrd:∀ l,l.length≤3010→den T G W (d+1) 35 [.int kind,.bytes l,.int depth]=told (rd l)) (hR:ReadOk rd data e due) (hne:refused≠.tuple [due,.int data.length])
  (heq:e<0→eqD 12 (.tuple [due,.int data.length]) (.tuple [due,.int data.length])=some true)
  (hnum:e<0→kind % 2=0→∃ pre vs,due=.tuple (pre++[.list vs])∧∀ v∈vs,NumOk v) :
  outS (evSs (den T G W (d+1)) G W lawTail [.val (.list (xs.map PV.int)),.val (.int kind),.val (.int spot),.val (.int depth),.val twin,.val handed,.val got,.unset,.unset,.unset,.val (.int size),.val (.int coded),.val (.int star),.val (.int k),.val parts,.val line,.val due,.val (.bytes data),.val (.int (if e<0 then -1 else e)),.val canon,.unset])=.ok (.bool true):=by
 have hlen:=hR.len
 rw [lawTail,run_next (to_assign (v:=refused) rfl)]
 simp only [xp0,xp1]
 have hx13:idxP (.list (xs.map PV.int)) (.int 13)=.ok (.int x13):=by
  show (if (0:Int)≤13 then ofI (xs.map PV.int)[(13:Int).toNat]? else .stuck)=_
  rw [if_pos (by decide),List.getElem?_map]
  show ofI ((xs[13]?).map PV.int)=_
  rw [hx]; rfl
 have cut_none:∀ n:Int,cutL data none (some n)=data.take n.toNat:=by intro n; unfold cutL; simp
 have cuts:∀ (e':Int) (want:PV) (s9:Slot),0≤e'→e'+1≤data.length→(∀ n:Nat,(n:Int)≤e'→rd (data.take n)=.ok .none)→∃ s8,
   evS (den T G W (d+1)) G W (.for_ 8 (.tup [(.bin .mod (.idx (.var 0) (.lit (.int 13))) (.bin .add (.var 18) (.lit (.int 1)))),(.var 18)]) [.if_ (.cmp .isNot (.call 35 [(.var 1),(.slc (.var 17) none (some (.var 8))),(.var 3)]) (.lit .none)) [.ret (.lit (.bool false))] []])
    [.val (.list (xs.map PV.int)),.val (.int kind),.val (.int spot),.val (.int depth),.val twin,.val handed,.val got,.val want,.unset,s9,.val (.int size),.val (.int coded),.val (.int star),.val (.int k),.val parts,.val line,.val due,.val (.bytes data),.val (.int e'),.val canon,.unset] =
   .ok (.next,[.val (.list (xs.map PV.int)),.val (.int kind),.val (.int spot),.val (.int depth),.val twin,.val handed,.val got,.val want,s8,s9,.val (.int size),.val (.int coded),.val (.int star),.val (.int k),.val parts,.val line,.val due,.val (.bytes data),.val (.int e'),.val canon,.unset]):=by
  intro e' want s9 h0 h1 hn
  have hpos:(0:Int)<e'+1:=by lia
  have hm0:=Int.emod_nonneg x13 (show e'+1≠0 by lia)
  have hm1:=Int.emod_lt_of_pos x13 hpos
  have one:∀ (c:Int) (s8:Slot),0≤c→c≤e'→evSs (den T G W (d+1)) G W [.if_ (.cmp .isNot (.call 35 [(.var 1),(.slc (.var 17) none (some (.var 8))),(.var 3)]) (.lit .none)) [.ret (.lit (.bool false))] []] [.val (.list (xs.map PV.int)),.val (.int kind),.val (.int spot),.val (.int depth),.val twin,.val handed,.val got,.val want,.val (.int c),s9,.val (.int size),.val (.int coded),.val (.int star),.val (.int k),.val parts,.val line,.val due,.val (.bytes data),.val (.int e'),.val canon,.unset] =
    .ok (.next,[.val (.list (xs.map PV.int)),.val (.int kind),.val (.int spot),.val (.int depth),.val twin,.val handed,.val got,.val want,.val (.int c),s9,.val (.int size),.val (.int coded),.val (.int star),.val (.int k),.val parts,.val line,.val due,.val (.bytes data),.val (.int e'),.val canon,.unset]):=by
   intro c s8 hc0 hc1
   have hr:=hn c.toNat (by lia)
   have hcall:=hrd (data.take c.toNat) (by rw [List.length_take]; lia)
   rw [hr] at hcall
   rw [run_next ((if_no (b_of (by (first | rfl | exact hc0 | exact cut_none | exact hcall | exact told | simp only [xnil,xSs,xfrz,xset,xown,xsetT,xaug,xapp,xexpr,xret,xif,xwhile,xfor,xforT,xraise,xtry,xbrk,xB,xlit,xneg,xvar,xglob,xsf,xtup,xlst,xdict,xbin,xcmp,xcmp2,xand,xor,xnot,xite,xidx,xslc,xcall,xlen,xisin,xisin1,xmkB,xtyp,xjoin,xcomp,xE,xE1,xO,xO1,xA1,xA2,xR1,xR2,xg0,xg1,xp0,xp1,b_ok,b_exc,b_stuck,c_eqi,c_nei,c_lti,c_lei,c_gti,c_gei,c_eqb,c_neb,c_eqs,c_nes,c_is,c_isNot,c_in,c_notIn,c_notInB,t_none,t_bool,t_int,o_addi,o_subi,o_modi,u_addi,l_b,l_t,l_l,i_t0,i_t1,e_none,s_b,r_ret,r_next,r_exc,r_stuck,it_b,it_t,it_l,f_nil,if_true,if_false,Bool.false_eq_true,Bool.true_eq_false,Bool.not_true,Bool.not_false,reduceIte,isNone,len_c,len_n,lim,Nat.reduceAdd,Nat.reduceLeDiff,ge_iff_le,e_some,hc0,cut_none,hcall,told])))).trans run_nil),run_nil]
  refine ⟨.val (.int e'),?_⟩
  simp only [xfrz,xset,xown,xsetT,xaug,xapp,xexpr,xret,xif,xwhile,xfor,xforT,xraise,xtry,xbrk,xlit,xneg,xvar,xglob,xsf,xtup,xlst,xdict,xbin,xcmp,xcmp2,xand,xor,xnot,xite,xidx,xslc,xcall,xlen,xisin,xisin1,xmkB,xtyp,xjoin,xcomp,xE,xE1,xg0,xg1,b_ok,hx13,o_addi,o_modi,hpos,if_true]
  rw [if_pos (by simp only [List.length_cons,List.length_nil,lim]; lia),b_ok,it_t,b_ok,f_cons]
  simp only [xp0,xp1,b_ok]
  rw [one _ .unset hm0 (by lia)]
  simp only
  rw [f_cons]
  simp only [xp0,xp1,b_ok]
  rw [one _ .unset h0 (by lia)]
  rfl
 have pieces:∀ (e':Int) (want:PV) (s8:Slot) (g0:PV),0≤e'→e'+1≤data.length→told (rd (data.take (e'+1).toNat))=.ok want→told (rd (data++[32,40,13,10]))=.ok want→cmpP .ne want want=.ok false→∃ s9,
   evS (den T G W (d+1)) G W (.for_ 9 (.tup [(.slc (.var 17) none (some (.bin .add (.var 18) (.lit (.int 1))))),(.bin .add (.var 17) (.lit (.bytes [32,40,13,10])))]) [.assign 6 (.call 35 [(.var 1),(.var 9),(.var 3)]),.if_ (.cmp .ne (.var 6) (.var 7)) [.ret (.lit (.bool false))] []])
    [.val (.list (xs.map PV.int)),.val (.int kind),.val (.int spot),.val (.int depth),.val twin,.val handed,.val g0,.val want,s8,.unset,.val (.int size),.val (.int coded),.val (.int star),.val (.int k),.val parts,.val line,.val due,.val (.bytes data),.val (.int e'),.val canon,.unset] =
   .ok (.next,[.val (.list (xs.map PV.int)),.val (.int kind),.val (.int spot),.val (.int depth),.val twin,.val handed,.val want,.val want,s8,s9,.val (.int size),.val (.int coded),.val (.int star),.val (.int k),.val parts,.val line,.val due,.val (.bytes data),.val (.int e'),.val canon,.unset]):=by
  intro e' want s8 g0 h0 h1 t1 t2 hw
  have hpos:(0:Int)≤e'+1:=by lia
  have one:∀ (l:List Int) (g:PV),l.length≤3010→told (rd l)=.ok want→evSs (den T G W (d+1)) G W [.assign 6 (.call 35 [(.var 1),(.var 9),(.var 3)]),.if_ (.cmp .ne (.var 6) (.var 7)) [.ret (.lit (.bool false))] []] [.val (.list (xs.map PV.int)),.val (.int kind),.val (.int spot),.val (.int depth),.val twin,.val handed,.val g,.val want,s8,.val (.bytes l),.val (.int size),.val (.int coded),.val (.int star),.val (.int k),.val parts,.val line,.val due,.val (.bytes data),.val (.int e'),.val canon,.unset] =
    .ok (.next,[.val (.list (xs.map PV.int)),.val (.int kind),.val (.int spot),.val (.int depth),.val twin,.val handed,.val want,.val want,s8,.val (.bytes l),.val (.int size),.val (.int coded),.val (.int star),.val (.int k),.val parts,.val line,.val due,.val (.bytes data),.val (.int e'),.val canon,.unset]):=by
   intro l g hl ht
   have hcall:=hrd l hl
   rw [ht] at hcall
   rw [run_next (to_assign (v:=want) (by (first | rfl | exact hcall | simp only [xnil,xSs,xfrz,xset,xown,xsetT,xaug,xapp,xexpr,xret,xif,xwhile,xfor,xforT,xraise,xtry,xbrk,xB,xlit,xneg,xvar,xglob,xsf,xtup,xlst,xdict,xbin,xcmp,xcmp2,xand,xor,xnot,xite,xidx,xslc,xcall,xlen,xisin,xisin1,xmkB,xtyp,xjoin,xcomp,xE,xE1,xO,xO1,xA1,xA2,xR1,xR2,xg0,xg1,xp0,xp1,b_ok,b_exc,b_stuck,c_eqi,c_nei,c_lti,c_lei,c_gti,c_gei,c_eqb,c_neb,c_eqs,c_nes,c_is,c_isNot,c_in,c_notIn,c_notInB,t_none,t_bool,t_int,o_addi,o_subi,o_modi,u_addi,l_b,l_t,l_l,i_t0,i_t1,e_none,s_b,r_ret,r_next,r_exc,r_stuck,it_b,it_t,it_l,f_nil,if_true,if_false,Bool.false_eq_true,Bool.true_eq_false,Bool.not_true,Bool.not_false,reduceIte,isNone,len_c,len_n,lim,Nat.reduceAdd,Nat.reduceLeDiff,ge_iff_le,hcall])))]
   simp only [xp0,xp1]
   rw [run_next ((if_no (b_of (by simp only [xlit,xneg,xvar,xglob,xsf,xtup,xlst,xdict,xbin,xcmp,xcmp2,xand,xor,xnot,xite,xidx,xslc,xcall,xlen,xisin,xisin1,xmkB,xtyp,xjoin,xcomp,xg0,xg1,b_ok,hw]))).trans run_nil),run_nil]
  refine ⟨.val (.bytes (data++[32,40,13,10])),?_⟩
  simp only [xfrz,xset,xown,xsetT,xaug,xapp,xexpr,xret,xif,xwhile,xfor,xforT,xraise,xtry,xbrk,xlit,xneg,xvar,xglob,xsf,xtup,xlst,xdict,xbin,xcmp,xcmp2,xand,xor,xnot,xite,xidx,xslc,xcall,xlen,xisin,xisin1,xmkB,xtyp,xjoin,xcomp,xE,xE1,xO,xO1,xg0,xg1,b_ok,o_addi,e_none,e_some,hpos,if_true,s_b,cut_none]
  rw [o_addb' (by simp only [List.length_cons,List.length_nil,lim]; lia)]
  simp only [b_ok]
  rw [if_pos (by simp only [List.length_cons,List.length_nil,lim]; lia),b_ok,it_t,b_ok,f_cons]
  simp only [xp0,xp1,b_ok]
  rw [one _ g0 (by rw [List.length_take]; lia) t1]
  simp only
  rw [f_cons]
  simp only [xp0,xp1,b_ok]
  rw [one _ want (by simp only [List.length_append,List.length_cons,List.length_nil]; lia) t2]
  rfl
 by_cases he:e<0
 ·rw [if_pos he]
  obtain ⟨hd0,hcut,hg1,hg2⟩:=hR.good he
  have hdl:0<data.length:=List.length_pos_iff.2 hd0
  have em1:(-1:Int)<0:=by decide
  rw [run_next ((if_yes (by first | exact b_yes rfl em1 | exact b_of (by (first | rfl | exact em1 | simp only [xnil,xSs,xfrz,xset,xown,xsetT,xaug,xapp,xexpr,xret,xif,xwhile,xfor,xforT,xraise,xtry,xbrk,xB,xlit,xneg,xvar,xglob,xsf,xtup,xlst,xdict,xbin,xcmp,xcmp2,xand,xor,xnot,xite,xidx,xslc,xcall,xlen,xisin,xisin1,xmkB,xtyp,xjoin,xcomp,xE,xE1,xO,xO1,xA1,xA2,xR1,xR2,xg0,xg1,xp0,xp1,b_ok,b_exc,b_stuck,c_eqi,c_nei,c_lti,c_lei,c_gti,c_gei,c_eqb,c_neb,c_eqs,c_nes,c_is,c_isNot,c_in,c_notIn,c_notInB,t_none,t_bool,t_int,o_addi,o_subi,o_modi,u_addi,l_b,l_t,l_l,i_t0,i_t1,e_none,s_b,r_ret,r_next,r_exc,r_stuck,it_b,it_t,it_l,f_nil,if_true,if_false,Bool.false_eq_true,Bool.true_eq_false,Bool.not_true,Bool.not_false,reduceIte,isNone,len_c,len_n,lim,Nat.reduceAdd,Nat.reduceLeDiff,ge_iff_le,em1,decide_true])))).trans ((run_next (to_assignT (vs:=[.int ((data.length:Int) - 1),.tuple [due,.int data.length]]) (by first | rfl | simp only [xnil,xSs,xfrz,xset,xown,xsetT,xaug,xapp,xexpr,xret,xif,xwhile,xfor,xforT,xraise,xtry,xbrk,xB,xlit,xneg,xvar,xglob,xsf,xtup,xlst,xdict,xbin,xcmp,xcmp2,xand,xor,xnot,xite,xidx,xslc,xcall,xlen,xisin,xisin1,xmkB,xtyp,xjoin,xcomp,xE,xE1,xO,xO1,xA1,xA2,xR1,xR2,xg0,xg1,xp0,xp1,b_ok,b_exc,b_stuck,c_eqi,c_nei,c_lti,c_lei,c_gti,c_gei,c_eqb,c_neb,c_eqs,c_nes,c_is,c_isNot,c_in,c_notIn,c_notInB,t_none,t_bool,t_int,o_addi,o_subi,o_modi,u_addi,l_b,l_t,l_l,i_t0,i_t1,e_none,s_b,r_ret,r_next,r_exc,r_stuck,it_b,it_t,it_l,f_nil,if_true,if_false,Bool.false_eq_true,Bool.true_eq_false,Bool.not_true,Bool.not_false,reduceIte,isNone,len_c,len_n,lim,Nat.reduceAdd,Nat.reduceLeDiff,ge_iff_le]) rfl)).trans run_nil))]
  simp only [if_true,List.reverse_cons,List.reverse_nil,List.nil_append,List.cons_append,putsS,xp0,xp1]
  obtain ⟨s8,hc⟩:=cuts ((data.length:Int) - 1) (.tuple [due,.int data.length]) .unset (by lia) (by lia) (fun n hn=>hcut n (by lia))
  rw [run_next hc]
  have e1:((data.length:Int) - 1+1).toNat=data.length:=by lia
  have hwant:=ne_same (heq he)
  obtain ⟨s9,hp⟩:=pieces ((data.length:Int) - 1) (.tuple [due,.int data.length]) s8 got (by lia) (by lia) (by rw [e1,List.take_length,hg1]; rfl) (by rw [hg2]; rfl) hwant
  rw [run_next hp]
  have hr:cmpP .eq (.tuple [due,.int data.length]) refused=.ok false:=rfl
  rw [run_next ((if_no (b_of (by simp only [xlit,xneg,xvar,xglob,xsf,xtup,xlst,xdict,xbin,xcmp,xcmp2,xand,xor,xnot,xite,xidx,xslc,xcall,xlen,xisin,xisin1,xmkB,xtyp,xjoin,xcomp,xg0,xg1,b_ok]; rw [show PV.str [114,101,102,117,115,101,100]=refused from rfl,hr]; rfl))).trans run_nil)]
  rw [run_next ((if_no (b_of (by (first | rfl | simp only [xnil,xSs,xfrz,xset,xown,xsetT,xaug,xapp,xexpr,xret,xif,xwhile,xfor,xforT,xraise,xtry,xbrk,xB,xlit,xneg,xvar,xglob,xsf,xtup,xlst,xdict,xbin,xcmp,xcmp2,xand,xor,xnot,xite,xidx,xslc,xcall,xlen,xisin,xisin1,xmkB,xtyp,xjoin,xcomp,xE,xE1,xO,xO1,xA1,xA2,xR1,xR2,xg0,xg1,xp0,xp1,b_ok,b_exc,b_stuck,c_eqi,c_nei,c_lti,c_lei,c_gti,c_gei,c_eqb,c_neb,c_eqs,c_nes,c_is,c_isNot,c_in,c_notIn,c_notInB,t_none,t_bool,t_int,o_addi,o_subi,o_modi,u_addi,l_b,l_t,l_l,i_t0,i_t1,e_none,s_b,r_ret,r_next,r_exc,r_stuck,it_b,it_t,it_l,f_nil,if_true,if_false,Bool.false_eq_true,Bool.true_eq_false,Bool.not_true,Bool.not_false,reduceIte,isNone,len_c,len_n,lim,Nat.reduceAdd,Nat.reduceLeDiff,ge_iff_le,i_t1,isP])))).trans run_nil)]
  have m2:(0:Int)<2:=by decide
  by_cases hk:kind % 2=0
  ·obtain ⟨pre,vs,hdue,hvs⟩:=hnum he hk
   have hlast:idxP due (.int (-((1:Nat):Int)))=.ok (.list vs):=by
    rw [hdue]
    exact last_idx pre _
   obtain ⟨s20,hl⟩:=num_loop (W:=W) (d+1) [.val (.list (xs.map PV.int)),.val (.int kind),.val (.int spot),.val (.int depth),.val twin,.val handed,.val (.tuple [due,.int data.length]),.val (.tuple [due,.int data.length]),s8,s9,.val (.int size),.val (.int coded),.val (.int star),.val (.int k),.val parts,.val line,.val due,.val (.bytes data),.val (.int ((data.length:Int) - 1)),.val canon] rfl vs .unset hvs
   rw [run_next ((if_yes (b_of (by simp only [xnil,xSs,xfrz,xset,xown,xsetT,xaug,xapp,xexpr,xret,xif,xwhile,xfor,xforT,xraise,xtry,xbrk,xB,xlit,xneg,xvar,xglob,xsf,xtup,xlst,xdict,xbin,xcmp,xcmp2,xand,xor,xnot,xite,xidx,xslc,xcall,xlen,xisin,xisin1,xmkB,xtyp,xjoin,xcomp,xE,xE1,xO,xO1,xA1,xA2,xR1,xR2,xg0,xg1,xp0,xp1,b_ok,b_exc,b_stuck,c_eqi,c_nei,c_lti,c_lei,c_gti,c_gei,c_eqb,c_neb,c_eqs,c_nes,c_is,c_isNot,c_in,c_notIn,c_notInB,t_none,t_bool,t_int,o_addi,o_subi,o_modi,u_addi,l_b,l_t,l_l,i_t0,i_t1,e_none,s_b,r_ret,r_next,r_exc,r_stuck,it_b,it_t,it_l,f_nil,if_true,if_false,Bool.false_eq_true,Bool.true_eq_false,Bool.not_true,Bool.not_false,reduceIte,isNone,len_c,len_n,lim,Nat.reduceAdd,Nat.reduceLeDiff,ge_iff_le,m2,hk]; rfl))).trans ((run_next (by simp only [xfrz,xset,xown,xsetT,xaug,xapp,xexpr,xret,xif,xwhile,xfor,xforT,xraise,xtry,xbrk,xlit,xneg,xvar,xglob,xsf,xtup,xlst,xdict,xbin,xcmp,xcmp2,xand,xor,xnot,xite,xidx,xslc,xcall,xlen,xisin,xisin1,xmkB,xtyp,xjoin,xcomp,xg0,xg1,b_ok,i_t0,hlast,it_l]; exact hl)).trans run_nil))]
   rfl
  ·have hb:(kind % 2 == 0)=false:=by rw [beq_eq_false_iff_ne]; exact hk
   rw [run_next ((if_no (b_of (by (first | rfl | exact m2 | exact hb | simp only [xnil,xSs,xfrz,xset,xown,xsetT,xaug,xapp,xexpr,xret,xif,xwhile,xfor,xforT,xraise,xtry,xbrk,xB,xlit,xneg,xvar,xglob,xsf,xtup,xlst,xdict,xbin,xcmp,xcmp2,xand,xor,xnot,xite,xidx,xslc,xcall,xlen,xisin,xisin1,xmkB,xtyp,xjoin,xcomp,xE,xE1,xO,xO1,xA1,xA2,xR1,xR2,xg0,xg1,xp0,xp1,b_ok,b_exc,b_stuck,c_eqi,c_nei,c_lti,c_lei,c_gti,c_gei,c_eqb,c_neb,c_eqs,c_nes,c_is,c_isNot,c_in,c_notIn,c_notInB,t_none,t_bool,t_int,o_addi,o_subi,o_modi,u_addi,l_b,l_t,l_l,i_t0,i_t1,e_none,s_b,r_ret,r_next,r_exc,r_stuck,it_b,it_t,it_l,f_nil,if_true,if_false,Bool.false_eq_true,Bool.true_eq_false,Bool.not_true,Bool.not_false,reduceIte,isNone,len_c,len_n,lim,Nat.reduceAdd,Nat.reduceLeDiff,ge_iff_le,m2,hb])))).trans run_nil)]
   rfl
 ·rw [if_neg he]
  have he0:0≤e:=by lia
  obtain ⟨hel,hcut,hb1,hb2⟩:=hR.bad he0
  rw [run_next ((if_no (by first | exact b_no rfl he | exact b_of (by (first | rfl | exact he | simp only [xnil,xSs,xfrz,xset,xown,xsetT,xaug,xapp,xexpr,xret,xif,xwhile,xfor,xforT,xraise,xtry,xbrk,xB,xlit,xneg,xvar,xglob,xsf,xtup,xlst,xdict,xbin,xcmp,xcmp2,xand,xor,xnot,xite,xidx,xslc,xcall,xlen,xisin,xisin1,xmkB,xtyp,xjoin,xcomp,xE,xE1,xO,xO1,xA1,xA2,xR1,xR2,xg0,xg1,xp0,xp1,b_ok,b_exc,b_stuck,c_eqi,c_nei,c_lti,c_lei,c_gti,c_gei,c_eqb,c_neb,c_eqs,c_nes,c_is,c_isNot,c_in,c_notIn,c_notInB,t_none,t_bool,t_int,o_addi,o_subi,o_modi,u_addi,l_b,l_t,l_l,i_t0,i_t1,e_none,s_b,r_ret,r_next,r_exc,r_stuck,it_b,it_t,it_l,f_nil,if_true,if_false,Bool.false_eq_true,Bool.true_eq_false,Bool.not_true,Bool.not_false,reduceIte,isNone,len_c,len_n,lim,Nat.reduceAdd,Nat.reduceLeDiff,ge_iff_le,he,decide_false])))).trans run_nil)]
  obtain ⟨s8,hc⟩:=cuts e refused .unset he0 (by lia) hcut
  rw [run_next hc]
  obtain ⟨s9,hp⟩:=pieces e refused s8 got he0 (by lia) (by rw [hb1]; rfl) (by rw [hb2]; rfl) rfl
  rw [run_next hp,run_ret ((if_yes (b_of rfl)).trans (run_ret (v:=.bool true) rfl))]
  rfl
end
end L2
end Mine
namespace Mine
namespace L2
theorem k9_idx (x:Int):idxP (.tuple [.int 0,.int 0,.int 0,.int 1,.int 2,.int 2,.int 3,.int 3,.int 3]) (.int (x % 9))=.ok (.int (k9 x)):=by
 have h0:=Int.emod_nonneg x (show (9:Int)≠0 by decide)
 have h1:=Int.emod_lt_of_pos x (show (0:Int)<9 by decide)
 unfold k9
 rcases (show x % 9=0∨x % 9=1∨x % 9=2∨x % 9=3∨x % 9=4∨x % 9=5∨x % 9=6∨x % 9=7∨x % 9=8 by lia) with h | h | h | h | h | h | h | h | h <;> rw [h] <;> rfl
structure Pk where
 kind:Int
 spot:Int
 depth:Int
 size:Int
 coded:Int
 star:Int
 k:Nat
 m:Int
 n:Int
 f:Int
 a:Int
 b:Int
 c:Int
noncomputable def Pk.first (p:Pk):Leaf:=pick z4 t_first t_firstB p.f (decide (p.kind=2) && decide (p.spot=4))
noncomputable def Pk.sep (p:Pk):Part:=pick z3 t_sep t_sepB p.f (decide (p.spot=5))
noncomputable def Pk.leaf (p:Pk):Leaf:=leafOf p.spot p.m p.n
noncomputable def Pk.body (p:Pk):List Part:=bodyParts p.size (decide (1<p.kind)) p.depth p.k p.first p.sep p.leaf
noncomputable def Pk.vals (p:Pk):List PV:=bodyVals p.size (decide (1<p.kind)) p.k p.first p.leaf
noncomputable def Pk.made (p:Pk):List Part × PV × PV:=L2.mk p.kind p.spot p.coded p.star p.a p.b p.c p.body p.vals
structure Pk.Ok (p:Pk):Prop where
 kind:p.kind=0∨p.kind=1∨p.kind=2∨p.kind=3
 spot0:0≤p.spot
 spot1:p.spot<12
 depth0:1≤p.depth
 depth1:p.depth≤3
 size0:0≤p.size
 coded0:0≤p.coded
 coded1:p.coded<2
 star0:0≤p.star
 star1:p.star<2
 k:p.k≤2
noncomputable def pkOf (x:Nat→Int):Pk:=⟨k9 (x 0),x 1 % 12,1+x 2 % 3,x 3 % 6,x 4 % 2,x 5 % 2,(x 6 % 3).toNat,x 7,x 8,x 9,x 10,x 11,x 12⟩
theorem pkOf_ok (x:Nat→Int):(pkOf x).Ok:=by
 have h1:=Int.emod_nonneg (x 1) (show (12:Int)≠0 by decide)
 have h2:=Int.emod_lt_of_pos (x 1) (show (0:Int)<12 by decide)
 have h3:=Int.emod_nonneg (x 2) (show (3:Int)≠0 by decide)
 have h4:=Int.emod_lt_of_pos (x 2) (show (0:Int)<3 by decide)
 have h5:=Int.emod_nonneg (x 3) (show (6:Int)≠0 by decide)
 have h6:=Int.emod_nonneg (x 4) (show (2:Int)≠0 by decide)
 have h7:=Int.emod_lt_of_pos (x 4) (show (0:Int)<2 by decide)
 have h8:=Int.emod_nonneg (x 5) (show (2:Int)≠0 by decide)
 have h9:=Int.emod_lt_of_pos (x 5) (show (0:Int)<2 by decide)
 have h10:=Int.emod_nonneg (x 6) (show (3:Int)≠0 by decide)
 have h11:=Int.emod_lt_of_pos (x 6) (show (0:Int)<3 by decide)
 refine ⟨?_,h1,h2,by simp only [pkOf]; lia,by simp only [pkOf]; lia,h5,h6,h7,h8,h9,by simp only [pkOf]; lia⟩
 simp only [pkOf,k9]
 split
 ·left; rfl
 ·split
  ·right; left; rfl
  ·split
   ·right; right; left; rfl
   ·right; right; right; rfl
theorem body_len (p:Pk):p.body.length≤10∧p.vals.length≤10:=by
 unfold Pk.body Pk.vals bodyParts bodyVals
 constructor <;> (split <;> split <;> simp)
noncomputable def Pk.handed (p:Pk):PV:=match p.made.2.1 with
 | .tuple l=>if p.spot=8 then .tuple (l++[.int 0]) else .tuple l
 | v=>v
section
variable {W:Nat}
theorem d_made (d:Nat) (p:Pk) (hp:p.Ok):den T G W (d+3) 32 [.int p.kind,.int p.spot,.int p.depth,.int p.size,.int p.coded,.int p.star,.int p.k,.int p.m,.int p.n,.int p.f,.int p.a,.int p.b,.int p.c] =
  .ok (.tuple [.list (p.made.1.map Part.pv),p.made.2.1,p.made.2.2]):=by
 have h:=d_values (W:=W) d p.kind p.spot p.depth p.size p.k hp.k p.m p.n p.f hp.spot0 (by have:=hp.depth0; lia) hp.depth1
 exact d_make d p.kind p.spot p.depth p.size p.coded p.star p.k hp.k p.m p.n p.f p.a p.b p.c hp.spot0 (by have:=hp.depth0; lia) hp.depth1 p.body p.vals (body_len p).1 (body_len p).2 h
theorem line_tuple (p:Pk):∃ l,p.made.2.1=.tuple l∧l.length≤5:=by
 unfold Pk.made L2.mk
 simp only
 split
 ·exact ⟨_,rfl,by simp⟩
 ·split
  ·exact ⟨_,rfl,by simp⟩
  ·split
   ·exact ⟨_,rfl,by simp⟩
   ·split
    ·exact ⟨_,rfl,by simp⟩
    ·exact ⟨_,rfl,by simp⟩
theorem ne_canon (ps:List Part):cmpP .ne (canonV ps) (canonV ps)=.ok false:=by
 unfold canonV
 cases ownsOf ps with
 | none=>rfl
 | some b=>show Res.ok (!(b == b))=_; simp
set_option maxHeartbeats 1000000 in
theorem law_true (d:Nat) (xs:List Int) (h14:14≤xs.length) (x:Nat→Int) (hx:∀ i,i<14→xs[i]?=some (x i)) (hlim:xs.length≤lim)
  (hl:(wires (pkOf x).made.1).length≤3000) (ho:∀ b,ownsOf (pkOf x).made.1=some b→b.length≤4000) (hn:(pkOf x).made.1.length≤100)
  (r:Res PV) (hw:(if (pkOf x).kind=0 then den T G W (d+2) 27 [(pkOf x).handed] else den T G W (d+2) 23 [(pkOf x).handed])=r) (hr:told r=.ok (canonV (pkOf x).made.1))
  (hline:eqD 12 (pkOf x).made.2.1 (pkOf x).made.2.1=some true)
  (rd:List Int→Res PV) (hrd:∀ l:List Int,l.length≤3010→(if (pkOf x).kind=0 then den T G W (d+2) 28 [.bytes l,.int (pkOf x).depth] else den T G W (d+2) 26 [.bytes l,.int (pkOf x).depth])=rd l)
  (hR:ReadOk rd (wires (pkOf x).made.1) (edgeOf (pkOf x).made.1 0) (pkOf x).made.2.2)
  (heq:edgeOf (pkOf x).made.1 0<0→eqD 12 (.tuple [(pkOf x).made.2.2,.int (wires (pkOf x).made.1).length]) (.tuple [(pkOf x).made.2.2,.int (wires (pkOf x).made.1).length])=some true)
  (hnum:edgeOf (pkOf x).made.1 0<0→(pkOf x).kind % 2=0→∃ pre vs,(pkOf x).made.2.2=.tuple (pre++[.list vs])∧∀ v∈vs,NumOk v) :
  den T G W (d+4) 36 [.list (xs.map PV.int)]=.ok (.bool true):=by
 rw [den_code (T:=T) (f:=36) (vs:=vf_law) (k:=1) (body:=cf_law) rfl rfl]
 show outS (evSs _ _ _ cf_law [.val (.list (xs.map PV.int)),.unset,.unset,.unset,.unset,.unset,.unset,.unset,.unset,.unset,.unset,.unset,.unset,.unset,.unset,.unset,.unset,.unset,.unset,.unset,.unset])=_
 have hge:¬ ((xs.map PV.int).length:Int)<14:=by rw [List.length_map]; lia
 have ix:∀ i:Nat,i<14→idxP (.list (xs.map PV.int)) (.int (i:Int))=.ok (.int (x i)):=by
  intro i hi
  show (if (0:Int)≤(i:Int) then ofI (xs.map PV.int)[(i:Int).toNat]? else .stuck)=_
  rw [if_pos (by lia),List.getElem?_map,Int.toNat_natCast,hx i hi]; rfl
 have i0:idxP (.list (xs.map PV.int)) (.int 0)=.ok (.int (x 0)):=ix 0 (by lia)
 have i1:idxP (.list (xs.map PV.int)) (.int 1)=.ok (.int (x 1)):=ix 1 (by lia)
 have i2:idxP (.list (xs.map PV.int)) (.int 2)=.ok (.int (x 2)):=ix 2 (by lia)
 have i3:idxP (.list (xs.map PV.int)) (.int 3)=.ok (.int (x 3)):=ix 3 (by lia)
 have i4:idxP (.list (xs.map PV.int)) (.int 4)=.ok (.int (x 4)):=ix 4 (by lia)
 have i5:idxP (.list (xs.map PV.int)) (.int 5)=.ok (.int (x 5)):=ix 5 (by lia)
 have i6:idxP (.list (xs.map PV.int)) (.int 6)=.ok (.int (x 6)):=ix 6 (by lia)
 have i7:idxP (.list (xs.map PV.int)) (.int 7)=.ok (.int (x 7)):=ix 7 (by lia)
 have i8:idxP (.list (xs.map PV.int)) (.int 8)=.ok (.int (x 8)):=ix 8 (by lia)
 have i9:idxP (.list (xs.map PV.int)) (.int 9)=.ok (.int (x 9)):=ix 9 (by lia)
 have i10:idxP (.list (xs.map PV.int)) (.int 10)=.ok (.int (x 10)):=ix 10 (by lia)
 have i11:idxP (.list (xs.map PV.int)) (.int 11)=.ok (.int (x 11)):=ix 11 (by lia)
 have i12:idxP (.list (xs.map PV.int)) (.int 12)=.ok (.int (x 12)):=ix 12 (by lia)
 have i13:xs[13]?=some (x 13):=hx 13 (by lia)
 have hpk:=pkOf_ok x
 have hk6:x 6 % 3=(((pkOf x).k:Nat):Int):=by
  have:=Int.emod_nonneg (x 6) (show (3:Int)≠0 by decide)
  simp only [pkOf]; lia
 have dm:=d_made (W:=W) d (pkOf x) hpk
 have hcf:cf_law=cf_law.take 13++lawTail:=rfl
 generalize hL:PV.list (xs.map PV.int)=sc at *
 have m9:(0:Int)<9:=by decide
 have m12:(0:Int)<12:=by decide
 have m3:(0:Int)<3:=by decide
 have m6:(0:Int)<6:=by decide
 have m2:(0:Int)<2:=by decide
 have k9i:=k9_idx (x 0)
 rw [cf_law]
 rw [run_next ((if_no (b_of (by rw [← hL]; simp only [xlit,xneg,xvar,xglob,xsf,xtup,xlst,xdict,xbin,xcmp,xcmp2,xand,xor,xnot,xite,xidx,xslc,xcall,xlen,xisin,xisin1,xmkB,xtyp,xjoin,xcomp,xg0,xg1,b_ok,l_l,c_lti,hge,decide_false]))).trans run_nil)]
 rw [run_next (to_assign (v:=.int (pkOf x).kind) (by simp only [xnil,xSs,xfrz,xset,xown,xsetT,xaug,xapp,xexpr,xret,xif,xwhile,xfor,xforT,xraise,xtry,xbrk,xB,xlit,xneg,xvar,xglob,xsf,xtup,xlst,xdict,xbin,xcmp,xcmp2,xand,xor,xnot,xite,xidx,xslc,xcall,xlen,xisin,xisin1,xmkB,xtyp,xjoin,xcomp,xE,xE1,xO,xO1,xA1,xA2,xR1,xR2,xg0,xg1,xp0,xp1,b_ok,b_exc,b_stuck,c_eqi,c_nei,c_lti,c_lei,c_gti,c_gei,c_eqb,c_neb,c_eqs,c_nes,c_is,c_isNot,c_in,c_notIn,c_notInB,t_none,t_bool,t_int,o_addi,o_subi,o_modi,u_addi,l_b,l_t,l_l,i_t0,i_t1,e_none,s_b,r_ret,r_next,r_exc,r_stuck,it_b,it_t,it_l,f_nil,if_true,if_false,Bool.false_eq_true,Bool.true_eq_false,Bool.not_true,Bool.not_false,reduceIte,isNone,len_c,len_n,lim,Nat.reduceAdd,Nat.reduceLeDiff,ge_iff_le,i0,m9,Int.natCast_nonneg]; exact k9i))]
 simp only [xp0,xp1]
 rw [run_next (to_assign (v:=.int (pkOf x).spot) (by simp only [xnil,xSs,xfrz,xset,xown,xsetT,xaug,xapp,xexpr,xret,xif,xwhile,xfor,xforT,xraise,xtry,xbrk,xB,xlit,xneg,xvar,xglob,xsf,xtup,xlst,xdict,xbin,xcmp,xcmp2,xand,xor,xnot,xite,xidx,xslc,xcall,xlen,xisin,xisin1,xmkB,xtyp,xjoin,xcomp,xE,xE1,xO,xO1,xA1,xA2,xR1,xR2,xg0,xg1,xp0,xp1,b_ok,b_exc,b_stuck,c_eqi,c_nei,c_lti,c_lei,c_gti,c_gei,c_eqb,c_neb,c_eqs,c_nes,c_is,c_isNot,c_in,c_notIn,c_notInB,t_none,t_bool,t_int,o_addi,o_subi,o_modi,u_addi,l_b,l_t,l_l,i_t0,i_t1,e_none,s_b,r_ret,r_next,r_exc,r_stuck,it_b,it_t,it_l,f_nil,if_true,if_false,Bool.false_eq_true,Bool.true_eq_false,Bool.not_true,Bool.not_false,reduceIte,isNone,len_c,len_n,lim,Nat.reduceAdd,Nat.reduceLeDiff,ge_iff_le,i1,m12]; rfl))]
 simp only [xp0,xp1]
 rw [run_next (to_assign (v:=.int (pkOf x).depth) (by simp only [xnil,xSs,xfrz,xset,xown,xsetT,xaug,xapp,xexpr,xret,xif,xwhile,xfor,xforT,xraise,xtry,xbrk,xB,xlit,xneg,xvar,xglob,xsf,xtup,xlst,xdict,xbin,xcmp,xcmp2,xand,xor,xnot,xite,xidx,xslc,xcall,xlen,xisin,xisin1,xmkB,xtyp,xjoin,xcomp,xE,xE1,xO,xO1,xA1,xA2,xR1,xR2,xg0,xg1,xp0,xp1,b_ok,b_exc,b_stuck,c_eqi,c_nei,c_lti,c_lei,c_gti,c_gei,c_eqb,c_neb,c_eqs,c_nes,c_is,c_isNot,c_in,c_notIn,c_notInB,t_none,t_bool,t_int,o_addi,o_subi,o_modi,u_addi,l_b,l_t,l_l,i_t0,i_t1,e_none,s_b,r_ret,r_next,r_exc,r_stuck,it_b,it_t,it_l,f_nil,if_true,if_false,Bool.false_eq_true,Bool.true_eq_false,Bool.not_true,Bool.not_false,reduceIte,isNone,len_c,len_n,lim,Nat.reduceAdd,Nat.reduceLeDiff,ge_iff_le,i2,m3]; rfl))]
 simp only [xp0,xp1]
 rw [run_next (to_assignT (vs:=[.int (pkOf x).size,.int (pkOf x).coded,.int (pkOf x).star,.int (((pkOf x).k:Nat):Int)]) (by simp only [xnil,xSs,xfrz,xset,xown,xsetT,xaug,xapp,xexpr,xret,xif,xwhile,xfor,xforT,xraise,xtry,xbrk,xB,xlit,xneg,xvar,xglob,xsf,xtup,xlst,xdict,xbin,xcmp,xcmp2,xand,xor,xnot,xite,xidx,xslc,xcall,xlen,xisin,xisin1,xmkB,xtyp,xjoin,xcomp,xE,xE1,xO,xO1,xA1,xA2,xR1,xR2,xg0,xg1,xp0,xp1,b_ok,b_exc,b_stuck,c_eqi,c_nei,c_lti,c_lei,c_gti,c_gei,c_eqb,c_neb,c_eqs,c_nes,c_is,c_isNot,c_in,c_notIn,c_notInB,t_none,t_bool,t_int,o_addi,o_subi,o_modi,u_addi,l_b,l_t,l_l,i_t0,i_t1,e_none,s_b,r_ret,r_next,r_exc,r_stuck,it_b,it_t,it_l,f_nil,if_true,if_false,Bool.false_eq_true,Bool.true_eq_false,Bool.not_true,Bool.not_false,reduceIte,isNone,len_c,len_n,lim,Nat.reduceAdd,Nat.reduceLeDiff,ge_iff_le,i3,i4,i5,i6,m6,m2,m3,hk6]; rfl) rfl)]
 simp only [Bool.false_eq_true,if_false,putsS,xp0,xp1]
 have p7:x 7=(pkOf x).m:=rfl
 have p8:x 8=(pkOf x).n:=rfl
 have p9:x 9=(pkOf x).f:=rfl
 have p10:x 10=(pkOf x).a:=rfl
 have p11:x 11=(pkOf x).b:=rfl
 have p12:x 12=(pkOf x).c:=rfl
 rw [p7] at i7; rw [p8] at i8; rw [p9] at i9; rw [p10] at i10; rw [p11] at i11; rw [p12] at i12
 generalize hp:pkOf x=p at *
 obtain ⟨lt,hlt,hltl⟩:=line_tuple p
 rw [run_next (to_assignT (vs:=[.list (p.made.1.map Part.pv),p.made.2.1,p.made.2.2]) (by simp only [xnil,xSs,xfrz,xset,xown,xsetT,xaug,xapp,xexpr,xret,xif,xwhile,xfor,xforT,xraise,xtry,xbrk,xB,xlit,xneg,xvar,xglob,xsf,xtup,xlst,xdict,xbin,xcmp,xcmp2,xand,xor,xnot,xite,xidx,xslc,xcall,xlen,xisin,xisin1,xmkB,xtyp,xjoin,xcomp,xE,xE1,xO,xO1,xA1,xA2,xR1,xR2,xg0,xg1,xp0,xp1,b_ok,b_exc,b_stuck,c_eqi,c_nei,c_lti,c_lei,c_gti,c_gei,c_eqb,c_neb,c_eqs,c_nes,c_is,c_isNot,c_in,c_notIn,c_notInB,t_none,t_bool,t_int,o_addi,o_subi,o_modi,u_addi,l_b,l_t,l_l,i_t0,i_t1,e_none,s_b,r_ret,r_next,r_exc,r_stuck,it_b,it_t,it_l,f_nil,if_true,if_false,Bool.false_eq_true,Bool.true_eq_false,Bool.not_true,Bool.not_false,reduceIte,isNone,len_c,len_n,lim,Nat.reduceAdd,Nat.reduceLeDiff,ge_iff_le,i7,i8,i9,i10,i11,i12]; exact dm) rfl)]
 simp only [Bool.false_eq_true,if_false,putsS,xp0,xp1]
 rw [run_next (to_assign (v:=.tuple [.list (p.made.1.map Part.pv),p.made.2.1,p.made.2.2]) (by simp only [xnil,xSs,xfrz,xset,xown,xsetT,xaug,xapp,xexpr,xret,xif,xwhile,xfor,xforT,xraise,xtry,xbrk,xB,xlit,xneg,xvar,xglob,xsf,xtup,xlst,xdict,xbin,xcmp,xcmp2,xand,xor,xnot,xite,xidx,xslc,xcall,xlen,xisin,xisin1,xmkB,xtyp,xjoin,xcomp,xE,xE1,xO,xO1,xA1,xA2,xR1,xR2,xg0,xg1,xp0,xp1,b_ok,b_exc,b_stuck,c_eqi,c_nei,c_lti,c_lei,c_gti,c_gei,c_eqb,c_neb,c_eqs,c_nes,c_is,c_isNot,c_in,c_notIn,c_notInB,t_none,t_bool,t_int,o_addi,o_subi,o_modi,u_addi,l_b,l_t,l_l,i_t0,i_t1,e_none,s_b,r_ret,r_next,r_exc,r_stuck,it_b,it_t,it_l,f_nil,if_true,if_false,Bool.false_eq_true,Bool.true_eq_false,Bool.not_true,Bool.not_false,reduceIte,isNone,len_c,len_n,lim,Nat.reduceAdd,Nat.reduceLeDiff,ge_iff_le,i7,i8,i9,i10,i11,i12]; exact dm))]
 simp only [xp0,xp1]
 have dj:=d_join (W:=W) (d+2) p.made.1 (by lia) ho hn
 rw [run_next (to_assignT (vs:=[.bytes (wires p.made.1),.int (if edgeOf p.made.1 0<0 then -1 else edgeOf p.made.1 0),canonV p.made.1]) (by first | exact dj | (simp only [xnil,xSs,xfrz,xset,xown,xsetT,xaug,xapp,xexpr,xret,xif,xwhile,xfor,xforT,xraise,xtry,xbrk,xB,xlit,xneg,xvar,xglob,xsf,xtup,xlst,xdict,xbin,xcmp,xcmp2,xand,xor,xnot,xite,xidx,xslc,xcall,xlen,xisin,xisin1,xmkB,xtyp,xjoin,xcomp,xE,xE1,xO,xO1,xA1,xA2,xR1,xR2,xg0,xg1,xp0,xp1,b_ok,b_exc,b_stuck,c_eqi,c_nei,c_lti,c_lei,c_gti,c_gei,c_eqb,c_neb,c_eqs,c_nes,c_is,c_isNot,c_in,c_notIn,c_notInB,t_none,t_bool,t_int,o_addi,o_subi,o_modi,u_addi,l_b,l_t,l_l,i_t0,i_t1,e_none,s_b,r_ret,r_next,r_exc,r_stuck,it_b,it_t,it_l,f_nil,if_true,if_false,Bool.false_eq_true,Bool.true_eq_false,Bool.not_true,Bool.not_false,reduceIte,isNone,len_c,len_n,lim,Nat.reduceAdd,Nat.reduceLeDiff,ge_iff_le]; exact dj)) rfl)]
 simp only [Bool.false_eq_true,if_false,putsS,xp0,xp1]
 rw [run_next (to_assign (v:=p.made.2.1) rfl)]
 simp only [xp0,xp1]
 have h8:evS (den T G W (d+3)) G W (.if_ (.cmp .eq (.var 2) (.lit (.int 8))) [.assign 5 (.bin .add (.var 15) (.tup [(.lit (.int 0))]))] []) [.val sc,.val (.int p.kind),.val (.int p.spot),.val (.int p.depth),.val (.tuple [.list (p.made.1.map Part.pv),p.made.2.1,p.made.2.2]),.val p.made.2.1,.unset,.unset,.unset,.unset,.val (.int p.size),.val (.int p.coded),.val (.int p.star),.val (.int p.k),.val (.list (p.made.1.map Part.pv)),.val p.made.2.1,.val p.made.2.2,.val (.bytes (wires p.made.1)),.val (.int (if edgeOf p.made.1 0<0 then -1 else edgeOf p.made.1 0)),.val (canonV p.made.1),.unset] =
   .ok (.next,[.val sc,.val (.int p.kind),.val (.int p.spot),.val (.int p.depth),.val (.tuple [.list (p.made.1.map Part.pv),p.made.2.1,p.made.2.2]),.val p.handed,.unset,.unset,.unset,.unset,.val (.int p.size),.val (.int p.coded),.val (.int p.star),.val (.int p.k),.val (.list (p.made.1.map Part.pv)),.val p.made.2.1,.val p.made.2.2,.val (.bytes (wires p.made.1)),.val (.int (if edgeOf p.made.1 0<0 then -1 else edgeOf p.made.1 0)),.val (canonV p.made.1),.unset]):=by
  have hh:p.handed=if p.spot=8 then .tuple (lt++[.int 0]) else .tuple lt:=by unfold Pk.handed; rw [hlt]
  rw [hh,hlt]
  by_cases s8:p.spot=8
  ·have b8:(p.spot == 8)=true:=by rw [beq_iff_eq]; exact s8
   rw [if_yes (b_of (by (first | rfl | exact b8 | simp only [xnil,xSs,xfrz,xset,xown,xsetT,xaug,xapp,xexpr,xret,xif,xwhile,xfor,xforT,xraise,xtry,xbrk,xB,xlit,xneg,xvar,xglob,xsf,xtup,xlst,xdict,xbin,xcmp,xcmp2,xand,xor,xnot,xite,xidx,xslc,xcall,xlen,xisin,xisin1,xmkB,xtyp,xjoin,xcomp,xE,xE1,xO,xO1,xA1,xA2,xR1,xR2,xg0,xg1,xp0,xp1,b_ok,b_exc,b_stuck,c_eqi,c_nei,c_lti,c_lei,c_gti,c_gei,c_eqb,c_neb,c_eqs,c_nes,c_is,c_isNot,c_in,c_notIn,c_notInB,t_none,t_bool,t_int,o_addi,o_subi,o_modi,u_addi,l_b,l_t,l_l,i_t0,i_t1,e_none,s_b,r_ret,r_next,r_exc,r_stuck,it_b,it_t,it_l,f_nil,if_true,if_false,Bool.false_eq_true,Bool.true_eq_false,Bool.not_true,Bool.not_false,reduceIte,isNone,len_c,len_n,lim,Nat.reduceAdd,Nat.reduceLeDiff,ge_iff_le,b8]))),run_next (to_assign (v:=.tuple (lt++[.int 0])) (by
    simp only [xnil,xSs,xfrz,xset,xown,xsetT,xaug,xapp,xexpr,xret,xif,xwhile,xfor,xforT,xraise,xtry,xbrk,xB,xlit,xneg,xvar,xglob,xsf,xtup,xlst,xdict,xbin,xcmp,xcmp2,xand,xor,xnot,xite,xidx,xslc,xcall,xlen,xisin,xisin1,xmkB,xtyp,xjoin,xcomp,xE,xE1,xO,xO1,xA1,xA2,xR1,xR2,xg0,xg1,xp0,xp1,b_ok,b_exc,b_stuck,c_eqi,c_nei,c_lti,c_lei,c_gti,c_gei,c_eqb,c_neb,c_eqs,c_nes,c_is,c_isNot,c_in,c_notIn,c_notInB,t_none,t_bool,t_int,o_addi,o_subi,o_modi,u_addi,l_b,l_t,l_l,i_t0,i_t1,e_none,s_b,r_ret,r_next,r_exc,r_stuck,it_b,it_t,it_l,f_nil,if_true,if_false,Bool.false_eq_true,Bool.true_eq_false,Bool.not_true,Bool.not_false,reduceIte,isNone,len_c,len_n,lim,Nat.reduceAdd,Nat.reduceLeDiff]
    show (if lt.length+1≤lim then Res.ok (PV.tuple (lt++[.int 0])) else .stuck)=_
    rw [if_pos (by simp only [lim]; lia)])),run_nil]
   simp only [xp0,xp1,if_pos s8]
  ·have b8:(p.spot == 8)=false:=by rw [beq_eq_false_iff_ne]; exact s8
   rw [if_no (b_of (by (first | rfl | exact b8 | simp only [xnil,xSs,xfrz,xset,xown,xsetT,xaug,xapp,xexpr,xret,xif,xwhile,xfor,xforT,xraise,xtry,xbrk,xB,xlit,xneg,xvar,xglob,xsf,xtup,xlst,xdict,xbin,xcmp,xcmp2,xand,xor,xnot,xite,xidx,xslc,xcall,xlen,xisin,xisin1,xmkB,xtyp,xjoin,xcomp,xE,xE1,xO,xO1,xA1,xA2,xR1,xR2,xg0,xg1,xp0,xp1,b_ok,b_exc,b_stuck,c_eqi,c_nei,c_lti,c_lei,c_gti,c_gei,c_eqb,c_neb,c_eqs,c_nes,c_is,c_isNot,c_in,c_notIn,c_notInB,t_none,t_bool,t_int,o_addi,o_subi,o_modi,u_addi,l_b,l_t,l_l,i_t0,i_t1,e_none,s_b,r_ret,r_next,r_exc,r_stuck,it_b,it_t,it_l,f_nil,if_true,if_false,Bool.false_eq_true,Bool.true_eq_false,Bool.not_true,Bool.not_false,reduceIte,isNone,len_c,len_n,lim,Nat.reduceAdd,Nat.reduceLeDiff,ge_iff_le,b8]))),run_nil,if_neg s8]
 rw [run_next h8]
 have dw:=d_law_write (W:=W) (d+2) p.kind p.handed r hw
 rw [hr] at dw
 rw [run_next (to_assign (v:=canonV p.made.1) (by first | exact dw | (simp only [xnil,xSs,xfrz,xset,xown,xsetT,xaug,xapp,xexpr,xret,xif,xwhile,xfor,xforT,xraise,xtry,xbrk,xB,xlit,xneg,xvar,xglob,xsf,xtup,xlst,xdict,xbin,xcmp,xcmp2,xand,xor,xnot,xite,xidx,xslc,xcall,xlen,xisin,xisin1,xmkB,xtyp,xjoin,xcomp,xE,xE1,xO,xO1,xA1,xA2,xR1,xR2,xg0,xg1,xp0,xp1,b_ok,b_exc,b_stuck,c_eqi,c_nei,c_lti,c_lei,c_gti,c_gei,c_eqb,c_neb,c_eqs,c_nes,c_is,c_isNot,c_in,c_notIn,c_notInB,t_none,t_bool,t_int,o_addi,o_subi,o_modi,u_addi,l_b,l_t,l_l,i_t0,i_t1,e_none,s_b,r_ret,r_next,r_exc,r_stuck,it_b,it_t,it_l,f_nil,if_true,if_false,Bool.false_eq_true,Bool.true_eq_false,Bool.not_true,Bool.not_false,reduceIte,isNone,len_c,len_n,lim,Nat.reduceAdd,Nat.reduceLeDiff,ge_iff_le]; exact dw)))]
 simp only [xp0,xp1]
 have hne1:=ne_canon p.made.1
 have hne2:cmpP .ne p.made.2.1 p.made.2.1=.ok false:=by rw [hlt] at hline ⊢; exact ne_same hline
 have i41:idxP (.tuple [.list (p.made.1.map Part.pv),p.made.2.1,p.made.2.2]) (.int 1)=.ok p.made.2.1:=rfl
 rw [run_next ((if_no (by simp only [xB,xlit,xneg,xvar,xglob,xsf,xtup,xlst,xdict,xbin,xcmp,xcmp2,xand,xor,xnot,xite,xidx,xslc,xcall,xlen,xisin,xisin1,xmkB,xtyp,xjoin,xcomp,xR1,xR2,xg0,xg1,b_ok,hne1,t_bool,Bool.false_eq_true,if_false,i41,hne2])).trans run_nil)]
 have hcan:evB (den T G W (d+3)) G (.and_ [(.cmp .ne (.var 19) (.lit (.str [114,101,102,117,115,101,100]))),(.not_ (.typeIs (.var 6) .bytes))]) [.val sc,.val (.int p.kind),.val (.int p.spot),.val (.int p.depth),.val (.tuple [.list (p.made.1.map Part.pv),p.made.2.1,p.made.2.2]),.val p.handed,.val (canonV p.made.1),.unset,.unset,.unset,.val (.int p.size),.val (.int p.coded),.val (.int p.star),.val (.int p.k),.val (.list (p.made.1.map Part.pv)),.val p.made.2.1,.val p.made.2.2,.val (.bytes (wires p.made.1)),.val (.int (if edgeOf p.made.1 0<0 then -1 else edgeOf p.made.1 0)),.val (canonV p.made.1),.unset]=.ok false:=by
  unfold canonV
  cases ownsOf p.made.1 with
  | none=>rfl
  | some b=>rfl
 rw [run_next ((if_no hcan).trans run_nil)]
 rw [← hL]
 exact tail_true (W:=W) (d+2) xs p.kind p.spot p.depth p.size p.coded p.star p.k (x 13) i13 (.tuple [.list (p.made.1.map Part.pv),p.made.2.1,p.made.2.2]) p.handed (canonV p.made.1) (.list (p.made.1.map Part.pv)) p.made.2.1 p.made.2.2 (wires p.made.1) (edgeOf p.made.1 0) (canonV p.made.1) rd
  (fun l hl=>d_law_read (W:=W) (d+2) p.kind l p.depth (rd l) (hrd l hl)) hR (by intro h; cases h) heq hnum
end
end L2
end Mine
namespace Mine
mutual
noncomputable def peq:PV→PV→Bool
 | .none,y=>@PV.casesOn (fun _=>Bool) y true (fun _=>false) (fun _=>false) (fun _=>false) (fun _=>false) (fun _=>false) (fun _=>false) (fun _=>false) false
 | .bool a,y=>@PV.casesOn (fun _=>Bool) y false (fun b=>a == b) (fun _=>false) (fun _=>false) (fun _=>false) (fun _=>false) (fun _=>false) (fun _=>false) false
 | .int a,y=>@PV.casesOn (fun _=>Bool) y false (fun _=>false) (fun b=>a == b) (fun _=>false) (fun _=>false) (fun _=>false) (fun _=>false) (fun _=>false) false
 | .flt a,y=>@PV.casesOn (fun _=>Bool) y false (fun _=>false) (fun _=>false) (fun b=>a == b) (fun _=>false) (fun _=>false) (fun _=>false) (fun _=>false) false
 | .str a,y=>@PV.casesOn (fun _=>Bool) y false (fun _=>false) (fun _=>false) (fun _=>false) (fun b=>a == b) (fun _=>false) (fun _=>false) (fun _=>false) false
 | .bytes a,y=>@PV.casesOn (fun _=>Bool) y false (fun _=>false) (fun _=>false) (fun _=>false) (fun _=>false) (fun b=>a == b) (fun _=>false) (fun _=>false) false
 | .tuple a,y=>@PV.casesOn (fun _=>Bool) y false (fun _=>false) (fun _=>false) (fun _=>false) (fun _=>false) (fun _=>false) (fun b=>peqs a b) (fun _=>false) false
 | .list a,y=>@PV.casesOn (fun _=>Bool) y false (fun _=>false) (fun _=>false) (fun _=>false) (fun _=>false) (fun _=>false) (fun _=>false) (fun b=>peqs a b) false
 | .dict0,y=>@PV.casesOn (fun _=>Bool) y false (fun _=>false) (fun _=>false) (fun _=>false) (fun _=>false) (fun _=>false) (fun _=>false) (fun _=>false) true
noncomputable def peqs:List PV→List PV→Bool
 | [],y=>match y with | []=>true | _::_=>false
 | a::r,y=>match y with | []=>false | b::t=>peq a b && peqs r t
end
mutual
theorem peq_sound:∀ (a b:PV),peq a b=true→a=b
 | .none,y,h=>@PV.casesOn (fun y=>peq .none y=true→.none=y) y (fun _=>rfl) (fun _=>ff) (fun _=>ff) (fun _=>ff) (fun _=>ff) (fun _=>ff) (fun _=>ff) (fun _=>ff) ff h
 | .bool a,y,h=>@PV.casesOn (fun y=>peq (.bool a) y=true→.bool a=y) y ff (fun b h=>congrArg PV.bool (eq_of_beq h)) (fun _=>ff) (fun _=>ff) (fun _=>ff) (fun _=>ff) (fun _=>ff) (fun _=>ff) ff h
 | .int a,y,h=>@PV.casesOn (fun y=>peq (.int a) y=true→.int a=y) y ff (fun _=>ff) (fun b h=>congrArg PV.int (eq_of_beq h)) (fun _=>ff) (fun _=>ff) (fun _=>ff) (fun _=>ff) (fun _=>ff) ff h
 | .flt a,y,h=>@PV.casesOn (fun y=>peq (.flt a) y=true→.flt a=y) y ff (fun _=>ff) (fun _=>ff) (fun b h=>congrArg PV.flt (eq_of_beq h)) (fun _=>ff) (fun _=>ff) (fun _=>ff) (fun _=>ff) ff h
 | .str a,y,h=>@PV.casesOn (fun y=>peq (.str a) y=true→.str a=y) y ff (fun _=>ff) (fun _=>ff) (fun _=>ff) (fun b h=>congrArg PV.str (eq_of_beq h)) (fun _=>ff) (fun _=>ff) (fun _=>ff) ff h
 | .bytes a,y,h=>@PV.casesOn (fun y=>peq (.bytes a) y=true→.bytes a=y) y ff (fun _=>ff) (fun _=>ff) (fun _=>ff) (fun _=>ff) (fun b h=>congrArg PV.bytes (eq_of_beq h)) (fun _=>ff) (fun _=>ff) ff h
 | .tuple a,y,h=>@PV.casesOn (fun y=>peq (.tuple a) y=true→.tuple a=y) y ff (fun _=>ff) (fun _=>ff) (fun _=>ff) (fun _=>ff) (fun _=>ff) (fun b h=>congrArg PV.tuple (peqs_sound a b h)) (fun _=>ff) ff h
 | .list a,y,h=>@PV.casesOn (fun y=>peq (.list a) y=true→.list a=y) y ff (fun _=>ff) (fun _=>ff) (fun _=>ff) (fun _=>ff) (fun _=>ff) (fun _=>ff) (fun b h=>congrArg PV.list (peqs_sound a b h)) ff h
 | .dict0,y,h=>@PV.casesOn (fun y=>peq .dict0 y=true→.dict0=y) y ff (fun _=>ff) (fun _=>ff) (fun _=>ff) (fun _=>ff) (fun _=>ff) (fun _=>ff) (fun _=>ff) (fun _=>rfl) h
theorem peqs_sound:∀ (a b:List PV),peqs a b=true→a=b
 | [],[],_=>rfl
 | [],_::_,h=>ff h
 | _::_,[],h=>ff h
 | x::r,y::t,h=>by rw [peq_sound x y (aL h),peqs_sound r t (aR h)]
end
namespace L2
noncomputable def isOk {α:Type} (eq:α→α→Bool) (r:PR α) (due:α) (rest:List Int):Bool:=match r with
 | .ok v r=>eq v due && r == rest
 | _=>false
noncomputable def isNon {α:Type}:PR α→Bool
 | .none=>true
 | _=>false
noncomputable def isErr {α:Type}:PR α→Bool
 | .err=>true
 | _=>false
noncomputable def rdB {α:Type} (eq:α→α→Bool) (P:List Int→PR α) (ps:List Part) (due:α):Bool :=
 let e:=edgeOf ps 0
 if e<0 then isOk eq (P (wires ps)) due []
 else decide (e.toNat<(wires ps).length) && isNon (P ((wires ps).take e.toNat)) && isErr (P ((wires ps).take (e.toNat+1)))
noncomputable def t5 (l:List Leaf) (i:Nat):Leaf:=(l[i]?).getD z4
end L2
end Mine
namespace Mine
namespace L2
theorem edge_add:∀ (ps:List Part) (n m:Int),0≤n→0≤m→(edgeOf ps n<0∧edgeOf ps (n+m)<0)∨(n≤edgeOf ps n∧edgeOf ps (n+m)=edgeOf ps n+m)
 | [],n,m,_,_=>by left; simp only [edgeOf]; lia
 | p::r,n,m,hn,hm=>by
  simp only [edgeOf]
  by_cases h:0≤p.a
  ·rw [if_pos h,if_pos h]; right; lia
  ·rw [if_neg h,if_neg h]
   have:=edge_add r (n+p.w.length) m (by lia) hm
   rw [show n+m+(p.w.length:Int)=n+p.w.length+m by lia]
   rcases this with h1 | h1
   ·left; exact h1
   ·right; exact ⟨by lia,h1.2⟩
structure Rd {β:Type} (P:List Int→PR β) (ps:List Part) (due:β):Prop where
 good:edgeOf ps 0<0→P (wires ps)=.ok due []
 bad:0≤edgeOf ps 0→(edgeOf ps 0).toNat<(wires ps).length∧P ((wires ps).take (edgeOf ps 0).toNat)=.none∧P ((wires ps).take ((edgeOf ps 0).toNat+1))=.err
structure Step {β:Type} (N:Nat) (P P':List Int→PR β) (w:List Int) (D:List Int):Prop where
 stop:P w=.none
 go:∀ c∈D,∀ t:List Int,t.length<N→P (w++c::t)=P' (c::t)
structure Bad {β:Type} (P:List Int→PR β) (w:List Int) (a:Nat) (D:List Int):Prop where
 le:a≤w.length
 none:∀ c∈D,P ((w++[c]).take a)=.none
 err:∀ c∈D,P ((w++[c]).take (a+1))=.err
theorem wires_cons (p:Part) (ps:List Part):wires (p::ps)=p.w++wires ps:=rfl
theorem wires_app (a b:List Part):wires (a++b)=wires a++wires b:=by
 unfold wires; rw [List.map_append,List.flatten_append]
theorem take_more {w u:List Int} {c:Int} {n:Nat} (h:n≤w.length+1):(w++c::u).take n=(w++[c]).take n:=by
 rw [show w++c::u=(w++[c])++u by simp,List.take_append_of_le_length (by simp; lia)]
theorem Rd.cons {β:Type} {N:Nat} {P P':List Int→PR β} {p:Part} {ps:List Part} {D:List Int} {due:β} (c:Int) (t:List Int) (hw:wires ps=c::t) (hc:c∈D) (hN:(wires ps).length≤N)
  (hs:p.a<0→Step N P P' p.w D) (hb:0≤p.a→Bad P p.w p.a.toNat D) (hr:p.a<0→Rd P' ps due):Rd P (p::ps) due:=by
 have ht:t.length<N:=by rw [hw,List.length_cons] at hN; lia
 by_cases ha:0≤p.a
 ·have e:edgeOf (p::ps) 0=p.a:=by rw [edgeOf,if_pos ha]; lia
  have b:=hb ha
  constructor
  ·intro h; rw [e] at h; lia
  ·intro _
   rw [e,wires_cons,hw]
   refine ⟨?_,?_,?_⟩
   ·have:=b.le; simp only [List.length_append,List.length_cons]; lia
   ·rw [take_more (by have:=b.le; lia)]; exact b.none c hc
   ·rw [take_more (by have:=b.le; lia)]; exact b.err c hc
 ·have ha':p.a<0:=by lia
  have s:=hs ha'
  have r:=hr ha'
  have e:edgeOf (p::ps) 0=edgeOf ps (0+p.w.length):=by rw [edgeOf,if_neg ha]
  have ea:=edge_add ps 0 p.w.length (by lia) (by lia)
  constructor
  ·intro h
   rw [e] at h
   rw [wires_cons,hw,s.go c hc t ht,← hw]
   rcases ea with h1 | h1
   ·exact r.good h1.1
   ·lia
  ·intro h
   rw [e] at h ⊢
   rcases ea with h1 | h1
   ·lia
   ·have rb:=r.bad h1.1
    rw [h1.2]
    have e2:(edgeOf ps 0+(p.w.length:Int)).toNat=p.w.length+(edgeOf ps 0).toNat:=by lia
    rw [e2,wires_cons]
    generalize (edgeOf ps 0).toNat=k at *
    refine ⟨by rw [List.length_append]; lia,?_,?_⟩
    ·rw [List.take_length_add_append]
     cases k with
     | zero=>rw [List.take_zero,List.append_nil]; exact s.stop
     | succ k =>
      have h3:=rb.2.1
      rw [hw] at h3 ⊢
      rw [List.take_succ_cons] at h3 ⊢
      rw [s.go c hc _ (by rw [List.length_take]; lia)]
      exact h3
    ·rw [show p.w.length+k+1=p.w.length+(k+1) by lia,List.take_length_add_append]
     have h3:=rb.2.2
     rw [hw] at h3 ⊢
     rw [List.take_succ_cons] at h3 ⊢
     rw [s.go c hc _ (by rw [List.length_take]; lia)]
     exact h3
theorem Rd.skip {β:Type} {P:List Int→PR β} {p:Part} {ps:List Part} {due:β} (hw:p.w=[]) (ha:p.a<0) (h:Rd P ps due):Rd P (p::ps) due:=by
 have e:edgeOf (p::ps) 0=edgeOf ps 0:=by rw [edgeOf,if_neg (by lia),hw]; rfl
 have e2:wires (p::ps)=wires ps:=by rw [wires_cons,hw]; rfl
 exact ⟨by rw [e,e2]; exact h.good,by rw [e,e2]; exact h.bad⟩
noncomputable def merge (vp:List Part):Part:=⟨wires vp,edgeOf vp 0,ownsOf vp⟩
theorem edge_app:∀ (a b:List Part) (n:Int),0≤n→edgeOf (a++b) n=if 0≤edgeOf a n then edgeOf a n else edgeOf b (n+(wires a).length)
 | [],b,n,hn=>by simp [edgeOf,wires]
 | p::r,b,n,hn=>by
  rw [List.cons_append,edgeOf,edgeOf]
  by_cases h:0≤p.a
  ·rw [if_pos h,if_pos h,if_pos (by lia)]
  ·rw [if_neg h,if_neg h,edge_app r b _ (by lia),wires_cons,List.length_append]
   rw [show n+(p.w.length:Int)+((wires r).length:Int)=n+((p.w.length+(wires r).length:Nat):Int) by lia]
theorem Rd.merge {β:Type} {P:List Int→PR β} {vp ps:List Part} {due:β} (h:Rd P (merge vp::ps) due):Rd P (vp++ps) due:=by
 have e2:wires (L2.merge vp::ps)=wires (vp++ps):=by rw [wires_cons,wires_app]; rfl
 have e:edgeOf (L2.merge vp::ps) 0=edgeOf (vp++ps) 0:=by
  rw [edge_app _ _ _ (by lia),edgeOf]
  show (if 0≤edgeOf vp 0 then 0+edgeOf vp 0 else edgeOf ps (0+((wires vp).length:Int)))=_
  by_cases h:0≤edgeOf vp 0
  ·rw [if_pos h,if_pos h]; lia
  ·rw [if_neg h,if_neg h]
 exact ⟨by rw [← e,← e2]; exact h.good,by rw [← e,← e2]; exact h.bad⟩
theorem Rd.last {β:Type} {P:List Int→PR β} {p:Part} {due:β} (hg:p.a<0→P p.w=.ok due []) (hb:0≤p.a→p.a.toNat<p.w.length∧P (p.w.take p.a.toNat)=.none∧P (p.w.take (p.a.toNat+1))=.err):Rd P [p] due:=by
 have e2:wires [p]=p.w:=by rw [wires_cons]; exact List.append_nil _
 by_cases h:0≤p.a
 ·have e:edgeOf [p] 0=p.a:=by rw [edgeOf,if_pos h]; lia
  exact ⟨by rw [e]; intro; lia,by rw [e,e2]; intro _; exact hb h⟩
 ·have e:edgeOf [p] 0=-1:=by rw [edgeOf,if_neg h]; rfl
  exact ⟨by rw [e2]; intro _; exact hg (by lia),by rw [e]; intro; lia⟩
end L2
end Mine
namespace Mine
namespace L2
structure VOk (v:List Int→PR PV) (w:List Int) (val:PV) (D:List Int):Prop where
 len:w.length≤500
 stop:v w=.none∨v w=.ok val []
 go:∀ c∈D,v (w++[c])=.ok val [c]
theorem VOk.more {v:List Int→PR PV} {w D:List Int} {val:PV} (h:VOk v w val D) (hm:Mono 3000 v) (c:Int) (hc:c∈D) (t:List Int) (ht:t.length<2000):v (w++c::t)=.ok val (c::t):=by
 have:=reads_more hm (h.go c hc) t (by have:=h.len; simp only [List.length_append,List.length_cons,List.length_nil]; lia)
 simpa using this
theorem isOk_so {α:Type} {eq:α→α→Bool} (he:∀ a b,eq a b=true→a=b) {r:PR α} {due:α} {rest:List Int} (h:isOk eq r due rest=true):r=.ok due rest:=by
 cases r with
 | ok a s =>
  simp only [isOk,Bool.and_eq_true,beq_iff_eq] at h
  rw [he _ _ h.1,h.2]
 | none=>cases h
 | err=>cases h
 | stuck=>cases h
theorem isNon_so {α:Type} {r:PR α} (h:isNon r=true):r=.none:=by cases r <;> first | rfl | cases h
theorem isErr_so {α:Type} {r:PR α} (h:isErr r=true):r=.err:=by cases r <;> first | rfl | cases h
noncomputable def ckBad {α:Type} (v:List Int→PR α) (w:List Int) (a:Nat) (D:List Int):Bool :=
 if a<w.length then isNon (v (w.take a)) && isErr (v (w.take (a+1)))
 else decide (a=w.length) && isNon (v w) && D.all fun c=>isErr (v (w++[c]))
theorem ckBad_so {α:Type} {v:List Int→PR α} {w:List Int} {a:Nat} {D:List Int} (h:ckBad v w a D=true):Bad v w a D:=by
 unfold ckBad at h
 split at h
 ·rename_i hlt
  simp only [Bool.and_eq_true] at h
  exact ⟨by lia,fun c _=>by rw [List.take_append_of_le_length (by lia)]; exact isNon_so h.1,fun c _=>by rw [List.take_append_of_le_length (by lia)]; exact isErr_so h.2⟩
 ·simp only [Bool.and_eq_true,decide_eq_true_eq,List.all_eq_true] at h
  obtain ⟨⟨h1,h2⟩,h3⟩:=h
  subst h1
  refine ⟨Nat.le_refl _,fun c _=>?_,fun c hc=>?_⟩
  ·rw [List.take_left]; exact isNon_so h2
  ·rw [List.take_of_length_le (by simp)]; exact isErr_so (h3 c hc)
noncomputable def notYet (r:PR PV):Bool:=match r with
 | .none=>true
 | .ok _ []=>true
 | _=>false
noncomputable def refd (r:PR PV):Bool:=match r with
 | .err=>true
 | .ok _ (c::_)=>decide (c≠32) && decide (c≠13) && decide (c≠93)
 | _=>false
structure VBad (v:List Int→PR PV) (w:List Int) (a:Nat) (D:List Int):Prop where
 le:a≤w.length
 none:∀ c∈D,notYet (v ((w++[c]).take a))=true
 err:∀ c∈D,refd (v ((w++[c]).take (a+1)))=true
noncomputable def ckVBad (v:List Int→PR PV) (w:List Int) (a:Nat) (D:List Int):Bool :=
 if a<w.length then notYet (v (w.take a)) && refd (v (w.take (a+1)))
 else decide (a=w.length) && notYet (v w) && D.all fun c=>refd (v (w++[c]))
theorem ckVBad_so {v:List Int→PR PV} {w:List Int} {a:Nat} {D:List Int} (h:ckVBad v w a D=true):VBad v w a D:=by
 unfold ckVBad at h
 split at h
 ·rename_i hlt
  simp only [Bool.and_eq_true] at h
  exact ⟨by lia,fun c _=>by rw [List.take_append_of_le_length (by lia)]; exact h.1,fun c _=>by rw [List.take_append_of_le_length (by lia)]; exact h.2⟩
 ·simp only [Bool.and_eq_true,decide_eq_true_eq,List.all_eq_true] at h
  obtain ⟨⟨h1,h2⟩,h3⟩:=h
  subst h1
  refine ⟨Nat.le_refl _,fun c _=>?_,fun c hc=>?_⟩
  ·rw [List.take_left]; exact h2
  ·rw [List.take_of_length_le (by simp)]; exact h3 c hc
noncomputable def ckV (v:List Int→PR PV) (p:Part) (val:PV) (D:List Int):Bool :=
 if p.a<0 then decide (p.w.length≤500) && (isNon (v p.w) || isOk peq (v p.w) val []) && D.all (fun c=>isOk peq (v (p.w++[c])) val [c])
 else ckVBad v p.w p.a.toNat D
structure VRd (v:List Int→PR PV) (p:Part) (val:PV) (D:List Int):Prop where
 good:p.a<0→VOk v p.w val D
 bad:0≤p.a→VBad v p.w p.a.toNat D
theorem ckV_so {v:List Int→PR PV} {p:Part} {val:PV} {D:List Int} (h:ckV v p val D=true):VRd v p val D:=by
 unfold ckV at h
 split at h
 ·rename_i ha
  simp only [Bool.and_eq_true,Bool.or_eq_true,decide_eq_true_eq,List.all_eq_true] at h
  refine ⟨fun _=>⟨h.1.1,?_,fun c hc=>isOk_so peq_sound (h.2 c hc)⟩,fun h0=>by lia⟩
  rcases h.1.2 with h2 | h2
  ·left; exact isNon_so h2
  ·right; exact isOk_so peq_sound h2
 ·exact ⟨fun h0=>by lia,fun _=>ckVBad_so h⟩
noncomputable def val3 (depth:Nat) (k:Nat) (leaf:Leaf):List Part:=[⟨opens k,deepAt depth k leaf,some (opens k)⟩,leaf.part,⟨closes k,-1,some (closes k)⟩]
noncomputable def DV:List Int:=[13,10,93,32]
noncomputable def DF:List Int:=[13,10,93,32,41]
noncomputable def leaves:List Leaf:=t_plain++t_strings++t_signs++t_counts++t_quotes
noncomputable def ckLeaf (depth k:Nat):Bool:=leaves.all fun l=>ckV (valP 3000 depth) (merge (val3 depth k l)) (nest k l.v) DV
theorem leaf_ok:(([1,2,3]:List Nat).all fun d=>([0,1,2]:List Nat).all fun k=>ckLeaf d k)=true:=by decide +kernel
theorem first_ok:(([1,2,3]:List Nat).all fun d=>t_first.all fun l=>ckV (valP 3000 d) l.part l.v DF)=true:=by decide +kernel
end L2
end Mine
namespace Mine
namespace L2
variable {β:Type}
structure RowG (v:List Int→PR PV) (V A:List Int→PR β) (val:PV):Prop where
 ok:∀ y r,v y=.ok val r→V y=A r
 none:∀ y,v y=.none→V y=.none
 nil:A []=.none
structure RowB (v:List Int→PR PV) (V:List Int→PR β):Prop where
 nil:∀ y,notYet (v y)=true→V y=.none
 ref:∀ y,refd (v y)=true→V y=.err
structure RowS (A V:List Int→PR β):Prop where
 sp:∀ y,A (32::y)=V y
 nil:A []=.none
 vnil:V []=.none
 vsp:V [32]=.err
 par:A [41]=.err
theorem Rd.val {v:List Int→PR PV} {V A:List Int→PR β} {p:Part} {val:PV} {D:List Int} {ps:List Part} {due:β} (hm:Mono 3000 v) (h:VRd v p val D)
  (hg:p.a<0→RowG v V A val) (hb:0≤p.a→RowB v V) (c:Int) (t:List Int) (hw:wires ps=c::t) (hc:c∈D) (hN:(wires ps).length≤2000) (hr:p.a<0→Rd A ps due):Rd V (p::ps) due:=by
 refine Rd.cons (N:=2000) (P':=A) (D:=D) c t hw hc hN (fun ha=>?_) (fun ha=>?_) hr
 ·have g:=h.good ha
  have r:=hg ha
  refine ⟨?_,fun c hc t ht=>r.ok _ _ (g.more hm c hc t ht)⟩
  rcases g.stop with h2 | h2
  ·exact r.none _ h2
  ·rw [r.ok _ _ h2,r.nil]
 ·have b:=h.bad ha
  have r:=hb ha
  exact ⟨b.le,fun c hc=>r.nil _ (b.none c hc),fun c hc=>r.ref _ (b.err c hc)⟩
theorem Rd.sep {A V:List Int→PR β} {ps:List Part} {due:β} (r:RowS A V) (sep:Part) (hs:sep=⟨[32],-1,some [32]⟩∨sep=⟨[32,32],1,some [32]⟩∨sep=⟨[41],0,some [32]⟩)
  (hne:wires ps≠[]) (hN:(wires ps).length≤2000) (hr:sep.a<0→Rd V ps due):Rd A (sep::ps) due:=by
 cases hw:wires ps with
 | nil=>exact absurd hw hne
 | cons c t =>
  refine Rd.cons (N:=2000) (P':=V) (D:=[c]) c t hw (List.mem_singleton.2 rfl) hN ?_ ?_ hr
  ·intro ha
   rcases hs with e | e | e <;> subst e
   ·exact ⟨(r.sp []).trans r.vnil,fun c _ t _=>r.sp (c::t)⟩
   ·exact absurd ha (by decide)
   ·exact absurd ha (by decide)
  ·intro ha
   rcases hs with e | e | e <;> subst e
   ·exact absurd ha (by decide)
   ·exact ⟨by decide,fun c _=>(r.sp []).trans r.vnil,fun c _=>(r.sp [32]).trans r.vsp⟩
   ·exact ⟨by decide,fun c _=>r.nil,fun c _=>r.par⟩
theorem val3_wires (d k:Nat) (leaf:Leaf) (ps:List Part) (h:wires ps≠[]):wires (val3 d k leaf++ps)≠[]:=by
 rw [wires_app]; intro e; exact h (List.append_eq_nil_iff.1 e).2
theorem Rd.two {v:List Int→PR PV} {V0 A1 V1 A2:List Int→PR β} {first:Leaf} {sep:Part} {leaf:Leaf} {d k:Nat} {ps:List Part} {due:β} (hm:Mono 3000 v)
  (hf:first.a<0→VRd v first.part first.v DF) (hfb:0≤first.a→Bad V0 first.w first.a.toNat DF) (hl:VRd v (L2.merge (val3 d k leaf)) (nest k leaf.v) DV)
  (g0:first.a<0→RowG v V0 A1 first.v) (s1:RowS A1 V1) (g1:RowG v V1 A2 (nest k leaf.v)) (b1:RowB v V1)
  (hs:sep=⟨[32],-1,some [32]⟩∨sep=⟨[32,32],1,some [32]⟩∨sep=⟨[41],0,some [32]⟩)
  (c:Int) (t:List Int) (hw:wires ps=c::t) (hc:c∈DV) (hN:(wires (first.part::sep::(val3 d k leaf++ps))).length≤2000)
  (hr:Rd A2 ps due):Rd V0 (first.part::sep::(val3 d k leaf++ps)) due:=by
 have n1:(wires (sep::(val3 d k leaf++ps))).length≤2000:=by rw [wires_cons,List.length_append] at hN; lia
 have n2:(wires (val3 d k leaf++ps)).length≤2000:=by rw [wires_cons,List.length_append] at n1; lia
 have n3:(wires ps).length≤2000:=by rw [wires_app,List.length_append] at n2; lia
 have r2:Rd V1 (val3 d k leaf++ps) due:=Rd.merge (Rd.val hm hl (fun _=>g1) (fun _=>b1) c t hw hc n3 fun _=>hr)
 have ne:wires (val3 d k leaf++ps)≠[]:=val3_wires _ _ _ _ (by rw [hw]; intro h; cases h)
 have r1:Rd A1 (sep::(val3 d k leaf++ps)) due:=Rd.sep s1 sep hs ne n2 fun _=>r2
 obtain ⟨c1,t1,hw1,hc1⟩:∃ c1 t1,wires (sep::(val3 d k leaf++ps))=c1::t1∧c1∈DF:=by
  rcases hs with e | e | e <;> subst e
  ·exact ⟨32,_,rfl,by decide⟩
  ·exact ⟨32,_,rfl,by decide⟩
  ·exact ⟨41,_,rfl,by decide⟩
 by_cases ha:first.a<0
 ·exact Rd.val hm (hf ha) g0 (fun h=>absurd (show first.a<0 from ha) (by have:0≤first.a:=h; lia)) c1 t1 hw1 hc1 n1 fun _=>r1
 ·exact Rd.cons (N:=2000) (P':=A1) (D:=DF) c1 t1 hw1 hc1 n1 (fun h=>absurd (show first.a<0 from h) ha) (fun h=>hfb h) fun h=>absurd (show first.a<0 from h) ha
theorem Rd.one {v:List Int→PR PV} {V0 A1:List Int→PR β} {first:Leaf} {ps:List Part} {due:β} (hm:Mono 3000 v)
  (hf:first.a<0→VRd v first.part first.v DF) (hfb:0≤first.a→Bad V0 first.w first.a.toNat DF)
  (g0:first.a<0→RowG v V0 A1 first.v) (c:Int) (t:List Int) (hw:wires ps=c::t) (hc:c∈DV) (hN:(wires ps).length≤2000)
  (hr:Rd A1 ps due):Rd V0 (first.part::ps) due:=by
 have hc1:c∈DF:=List.mem_append_left [41] hc
 by_cases ha:first.a<0
 ·exact Rd.val hm (hf ha) g0 (fun h=>absurd (show first.a<0 from ha) (by have:0≤first.a:=h; lia)) c t hw hc1 hN fun _=>hr
 ·exact Rd.cons (N:=2000) (P':=A1) (D:=DF) c t hw hc1 hN (fun h=>absurd (show first.a<0 from h) ha) (fun h=>hfb h) fun h=>absurd (show first.a<0 from h) ha
theorem pr_ok {α γ:Type} (a:α) (r:List Int) (f:α→List Int→PR γ):(PR.ok a r).bind f=f a r:=rfl
theorem crlf_not {c:Int} (h:c≠13) (t:List Int):crlfP (c::t)=.err:=by
 have hne:(c::t).take 2≠[13,10].take ((c::t).take 2).length:=by
  cases t with
  | nil=>intro e; exact h (List.cons.inj e).1
  | cons a u=>intro e; exact h (List.cons.inj e).1
 unfold crlfP
 rw [if_neg hne]
noncomputable def rowV (v:List Int→PR PV) (A:PV→List Int→PR β) (y:List Int):PR β:=(v y).bind A
theorem rowG_of {v:List Int→PR PV} {A:PV→List Int→PR β} {val:PV} (h:A val []=.none):RowG v (rowV v A) (A val) val :=
 ⟨fun y r e=>by unfold rowV; rw [e]; rfl,fun y e=>by unfold rowV; rw [e]; rfl,h⟩
theorem rowB_of {v:List Int→PR PV} {A:PV→List Int→PR β} (h:∀ a,A a []=.none) (h2:∀ a c t,c≠32→c≠13→c≠93→A a (c::t)=.err):RowB v (rowV v A):=by
 constructor
 ·intro y e
  unfold rowV
  cases hv:v y with
  | none=>rfl
  | err=>rw [hv] at e; cases e
  | stuck=>rw [hv] at e; cases e
  | ok a r =>
   rw [hv] at e
   cases r with
   | nil=>exact h a
   | cons c t=>cases e
 ·intro y e
  unfold rowV
  cases hv:v y with
  | none=>rw [hv] at e; cases e
  | err=>rfl
  | stuck=>rw [hv] at e; cases e
  | ok a r =>
   rw [hv] at e
   cases r with
   | nil=>cases e
   | cons c t =>
    simp only [refd,Bool.and_eq_true,decide_eq_true_eq] at e
    exact h2 a c t e.1.1 e.1.2 e.2
noncomputable def valsA (d n:Nat) (acc:List PV) (K:List PV→List Int→PR β) (y:List Int):PR β:=(valsN (valP 3000 d) n acc y).bind K
theorem vals_sp (d n:Nat) (acc:List PV) (K:List PV→List Int→PR β) (y:List Int):valsA d (n+1) acc K (32::y)=rowV (valP 3000 d) (fun a=>valsA d n (acc++[a]) K) y:=by
 unfold valsA rowV
 rw [valsN,if_pos rfl]
 cases valP 3000 d y <;> rfl
theorem vals_not (d n:Nat) (acc:List PV) (K:List PV→List Int→PR β) (c:Int) (t:List Int) (h:c≠32) (h2:c≠13):valsA d (n+1) acc K (c::t)=.err:=by
 unfold valsA
 rw [valsN,if_neg h,crlf_not h2]; rfl
theorem v_nil (d:Nat):valP 3000 d []=.none:=by cases d <;> rfl
theorem v_sp (d:Nat):valP 3000 d [32]=.err:=by cases d <;> rfl
theorem vals_S (d n:Nat) (acc:List PV) (K:List PV→List Int→PR β):RowS (valsA d (n+1) acc K) (rowV (valP 3000 d) (fun a=>valsA d n (acc++[a]) K)) :=
 ⟨vals_sp d n acc K,rfl,by unfold rowV; rw [v_nil]; rfl,by unfold rowV; rw [v_sp]; rfl,vals_not _ _ _ _ _ _ (by decide) (by decide)⟩
noncomputable def dataA (d n:Nat) (acc:List PV) (K:List PV→List Int→PR β) (r:List Int):PR β:=match r with
 | []=>.none
 | c::t=>if c=32 then (dataN (valP 3000 d) n acc t).bind K else ((crlfP (c::t)).bind fun _ r=>PR.ok acc r).bind K
theorem data_V (d n:Nat) (acc:List PV) (hacc:acc.isEmpty=false) (K:List PV→List Int→PR β) (y:List Int):(dataN (valP 3000 d) (n+1) acc y).bind K=rowV (valP 3000 d) (fun a=>dataA d n (acc++[a]) K) y:=by
 unfold rowV
 rw [dataN]
 cases valP 3000 d y with
 | none=>rfl
 | err=>rfl
 | stuck=>rfl
 | ok a r =>
  simp only [pr_ok,hacc,Bool.false_eq_true,false_and,if_false]
  cases r with
  | nil=>rfl
  | cons c t =>
   simp only [dataA]
   by_cases hc:c=32
   ·rw [if_pos hc,if_pos hc]
   ·rw [if_neg hc,if_neg hc]
theorem data_S (d n:Nat) (acc:List PV) (hacc:acc.isEmpty=false) (K:List PV→List Int→PR β):RowS (dataA d (n+1) acc K) (rowV (valP 3000 d) (fun a=>dataA d n (acc++[a]) K)):=by
 refine ⟨fun y=>?_,rfl,by unfold rowV; rw [v_nil]; rfl,by unfold rowV; rw [v_sp]; rfl,rfl⟩
 rw [← data_V d n acc hacc]; rfl
theorem data_G (d n:Nat) (K:List PV→List Int→PR β) (val:PV) (h:isStat val=false):RowG (valP 3000 d) (fun y=>(dataN (valP 3000 d) (n+1) [] y).bind K) (dataA d n [val] K) val:=by
 refine ⟨fun y r e=>?_,fun y e=>?_,rfl⟩
 ·show (dataN _ _ _ _).bind _=_
  rw [dataN,e]
  simp only [pr_ok,h,Bool.false_eq_true,and_false,if_false]
  cases r with
  | nil=>rfl
  | cons c t =>
   simp only [dataA,List.nil_append]
   by_cases hc:c=32
   ·rw [if_pos hc,if_pos hc]
   ·rw [if_neg hc,if_neg hc]
 ·show (dataN _ _ _ _).bind _=_
  rw [dataN,e]; rfl
theorem data_not (d n:Nat) (acc:List PV) (K:List PV→List Int→PR β) (c:Int) (t:List Int) (h:c≠32) (h2:c≠13):dataA d n acc K (c::t)=.err:=by
 simp only [dataA]
 rw [if_neg h,crlf_not h2]; rfl
noncomputable def codeA (d n:Nat) (acc:List PV) (K:List PV→List Int→PR β) (r:List Int):PR β:=match r with
 | []=>.none
 | c::t=>if c=93 then K acc t else if c=32 then (codeN (valP 3000 d) n acc t).bind K else .err
theorem code_V (d n:Nat) (acc:List PV) (K:List PV→List Int→PR β) (y:List Int):(codeN (valP 3000 d) (n+1) acc y).bind K=rowV (valP 3000 d) (fun a=>codeA d n (acc++[a]) K) y:=by
 unfold rowV
 rw [codeN]
 cases valP 3000 d y with
 | none=>rfl
 | err=>rfl
 | stuck=>rfl
 | ok a r =>
  simp only [pr_ok]
  cases r with
  | nil=>rfl
  | cons c t =>
   simp only [codeA]
   by_cases hc:c=93
   ·rw [if_pos hc,if_pos hc]; rfl
   ·rw [if_neg hc,if_neg hc]
    by_cases hd:c=32
    ·rw [if_pos hd,if_pos hd]
    ·rw [if_neg hd,if_neg hd]; rfl
theorem code_S (d n:Nat) (acc:List PV) (K:List PV→List Int→PR β):RowS (codeA d (n+1) acc K) (rowV (valP 3000 d) (fun a=>codeA d n (acc++[a]) K)):=by
 refine ⟨fun y=>?_,rfl,by unfold rowV; rw [v_nil]; rfl,by unfold rowV; rw [v_sp]; rfl,rfl⟩
 rw [← code_V d n acc]; rfl
theorem code_not (d n:Nat) (acc:List PV) (K:List PV→List Int→PR β) (c:Int) (t:List Int) (h:c≠32) (h2:c≠93):codeA d n acc K (c::t)=.err:=by
 simp only [codeA]
 rw [if_neg h2,if_neg h]
end L2
end Mine
namespace Mine
namespace L2
variable {α β:Type}
noncomputable def beqL (a b:List Int):Bool:=a == b
theorem beqL_so (a b:List Int) (h:beqL a b=true):a=b:=by simpa [beqL] using h
theorem rdB_so {eq:β→β→Bool} (he:∀ a b,eq a b=true→a=b) {P:List Int→PR β} {ps:List Part} {due:β} (h:rdB eq P ps due=true):Rd P ps due:=by
 unfold rdB at h
 constructor
 ·intro hn
  simp only [hn,if_true] at h
  exact isOk_so he h
 ·intro hn
  have hn':¬ edgeOf ps 0<0:=by lia
  simp only [hn',if_false,Bool.and_eq_true,decide_eq_true_eq] at h
  exact ⟨h.1.1,isNon_so h.1.2,isErr_so h.2⟩
theorem Rd.map {P:List Int→PR α} {ps:List Part} {due:α} (f:α→β) (h:Rd P ps due):Rd (fun y=>(P y).bind fun a r=>.ok (f a) r) ps (f due) :=
 ⟨fun e=>by show (P _).bind _=_; rw [h.good e]; rfl,fun e=>⟨(h.bad e).1,by show (P _).bind _=_; rw [(h.bad e).2.1]; rfl,by show (P _).bind _=_; rw [(h.bad e).2.2]; rfl⟩⟩
theorem Rd.congr {P P':List Int→PR β} {ps:List Part} {due:β} (e:∀ n,P' ((wires ps).take n)=P ((wires ps).take n)) (h:Rd P ps due):Rd P' ps due:=by
 refine ⟨fun a=>?_,fun a=>⟨(h.bad a).1,by rw [e]; exact (h.bad a).2.1,by rw [e]; exact (h.bad a).2.2⟩⟩
 have:=e (wires ps).length
 rw [List.take_length] at this
 rw [this]; exact h.good a
noncomputable def texts:List Part:=t_text++t_textB
noncomputable def ends:List Part:=t_end++t_endB
theorem text_all:(texts.all fun t=>ends.all fun e=>rdB beqL (textP 3000) [t,e] t.w)=true:=by decide +kernel
theorem text_rd {t e:Part} (ht:t∈texts) (he:e∈ends):Rd (textP 3000) [t,e] t.w :=
 rdB_so beqL_so (List.all_eq_true.1 (List.all_eq_true.1 text_all t ht) e he)
theorem fin_rd {t e:Part} (ht:t∈texts) (he:e∈ends) (tag w:List Int) (code:PV):Rd (finP 3000 tag w code) [t,e] (.tuple [.str [115,116,97,116,117,115],.bytes tag,.bytes w,code,.bytes t.w]) :=
 Rd.map (fun x=>PV.tuple [.str [115,116,97,116,117,115],.bytes tag,.bytes w,code,.bytes x]) (text_rd ht he)
theorem plus_all:((t_plus++t_plusB).all fun q=>texts.all fun t=>ends.all fun e=>rdB peq (lineP 3000 1) [q,t,e] (.tuple [.str [99,111,110,116,105,110,117,101],.bytes t.w]))=true:=by decide +kernel
theorem pick_in {γ:Type} (z:γ) (gs bs:List γ) (n:Int) (b:Bool) (hg:gs≠[]) (hb:bs≠[]):pick z gs bs n b∈gs++bs:=by
 have key:∀ l:List γ,l≠[]→(l[(n % l.length).toNat]?).getD z∈l:=by
  intro l hl
  have h0:(0:Int)<l.length:=by have:=List.length_pos_iff.2 hl; lia
  have h1:=Int.emod_nonneg n (show (l.length:Int)≠0 by lia)
  have h2:=Int.emod_lt_of_pos n h0
  have h3:(n % (l.length:Int)).toNat<l.length:=by lia
  rw [List.getElem?_eq_getElem h3]
  exact List.getElem_mem h3
 unfold pick
 split
 ·exact List.mem_append_right _ (key bs hb)
 ·exact List.mem_append_left _ (key gs hg)
theorem pick_good {γ:Type} (z:γ) (gs bs:List γ) (n:Int) (hg:gs≠[]):pick z gs bs n false∈gs:=by
 have h0:(0:Int)<gs.length:=by have:=List.length_pos_iff.2 hg; lia
 have h1:=Int.emod_nonneg n (show (gs.length:Int)≠0 by lia)
 have h2:=Int.emod_lt_of_pos n h0
 have h3:(n % (gs.length:Int)).toNat<gs.length:=by lia
 unfold pick
 rw [if_neg (by decide),List.getElem?_eq_getElem h3]
 exact List.getElem_mem h3
theorem pick_bad {γ:Type} (z:γ) (gs bs:List γ) (n:Int) (hb:bs≠[]):pick z gs bs n true∈bs:=by
 have:=pick_good z bs gs n hb
 exact this
theorem vals_end {e:Part} (he:e∈ends) (d n:Nat) (acc:List PV) (f:List PV→β):Rd (valsA d (n+1) acc fun vs r=>.ok (f vs) r) [e] (f acc):=by
 have hx:e=⟨[13,10],-1,some [13,10]⟩∨e=⟨[13,13],1,none⟩∨e=⟨[10],0,none⟩∨e=⟨[13,120],1,none⟩:=by
  simp only [ends,t_end,t_endB,List.cons_append,List.nil_append,List.mem_cons,List.not_mem_nil,or_false] at he; exact he
 refine Rd.last ?_ ?_ <;> rcases hx with h | h | h | h <;> subst h <;> intro ha <;> first | exact absurd ha (by decide) | rfl | exact ⟨by decide,rfl,rfl⟩
theorem data_end {e:Part} (he:e∈ends) (d n:Nat) (acc:List PV) (f:List PV→β):Rd (dataA d n acc fun vs r=>.ok (f vs) r) [e] (f acc):=by
 have hx:e=⟨[13,10],-1,some [13,10]⟩∨e=⟨[13,13],1,none⟩∨e=⟨[10],0,none⟩∨e=⟨[13,120],1,none⟩:=by
  simp only [ends,t_end,t_endB,List.cons_append,List.nil_append,List.mem_cons,List.not_mem_nil,or_false] at he; exact he
 refine Rd.last ?_ ?_ <;> rcases hx with h | h | h | h <;> subst h <;> intro ha <;> first | exact absurd ha (by decide) | rfl | exact ⟨by decide,rfl,rfl⟩
theorem end_lead {e:Part} (he:e∈ends):∃ c t,e.w=c::t∧c∈DV∧e.w.length≤2:=by
 have hx:e=⟨[13,10],-1,some [13,10]⟩∨e=⟨[13,13],1,none⟩∨e=⟨[10],0,none⟩∨e=⟨[13,120],1,none⟩:=by
  simp only [ends,t_end,t_endB,List.cons_append,List.nil_append,List.mem_cons,List.not_mem_nil,or_false] at he; exact he
 rcases hx with h | h | h | h <;> subst h <;> exact ⟨_,_,rfl,by decide,by decide⟩
end L2
end Mine
namespace Mine
namespace L2
variable {α β:Type}
theorem run_step {p:Int→Bool} {w:List Int} {c:Int} (h:runP 3000 p (w++[c])=.ok w [c]) (hl:w.length≤500) (t:List Int) (ht:t.length<2000):runP 3000 p (w++c::t)=.ok w (c::t):=by
 have:=reads_more (mono_run 3000 p) h t (by simp only [List.length_append,List.length_cons,List.length_nil]; lia)
 simpa using this
theorem atT_in (l:List Leaf) (n:Int) (hl:l.length=10):atT l n∈l:=by
 have h1:=Int.emod_nonneg n (show (10:Int)≠0 by lia)
 have h2:=Int.emod_lt_of_pos n (show (0:Int)<10 by lia)
 have h3:(n % 10).toNat<l.length:=by lia
 unfold atT
 rw [List.getElem?_eq_getElem h3]
 exact List.getElem_mem h3
theorem leafOf_in (spot m n:Int):leafOf spot m n∈leaves:=by
 unfold leafOf leaves
 simp only [List.mem_append]
 split
 ·left; left; right; exact atT_in _ _ rfl
 ·split
  ·left; right; exact atT_in _ _ rfl
  ·split
   ·right; exact atT_in _ _ rfl
   ·split
    ·left; left; left; left; exact atT_in _ _ rfl
    ·left; left; left; right; exact atT_in _ _ rfl
theorem leaf_rd {d k:Nat} (hd:d∈[1,2,3]) (hk:k∈[0,1,2]) {l:Leaf} (hl:l∈leaves):VRd (valP 3000 d) (merge (val3 d k l)) (nest k l.v) DV :=
 ckV_so (List.all_eq_true.1 (List.all_eq_true.1 (List.all_eq_true.1 leaf_ok d hd) k hk) l hl)
theorem first_rd {d:Nat} (hd:d∈[1,2,3]) {l:Leaf} (hl:l∈t_first):VRd (valP 3000 d) l.part l.v DF :=
 ckV_so (List.all_eq_true.1 (List.all_eq_true.1 first_ok d hd) l hl)
structure Pk.Dep (p:Pk) (d:Nat):Prop where
 eq:p.depth=d
 mem:d∈[1,2,3]
theorem Pk.Ok.dep {p:Pk} (h:p.Ok):∃ d,p.Dep d:=by
 have h0:=h.depth0
 have h1:=h.depth1
 rcases (show p.depth=1∨p.depth=2∨p.depth=3 by lia) with e | e | e
 ·exact ⟨1,e,by decide⟩
 ·exact ⟨2,e,by decide⟩
 ·exact ⟨3,e,by decide⟩
theorem Pk.Ok.kmem {p:Pk} (h:p.Ok):p.k∈[0,1,2]:=by
 have:=h.k
 rcases (show p.k=0∨p.k=1∨p.k=2 by lia) with e | e | e <;> rw [e] <;> decide
theorem Pk.leaf_in (p:Pk):p.leaf∈leaves:=leafOf_in _ _ _
theorem Pk.sep_in (p:Pk):p.sep=⟨[32],-1,some [32]⟩∨p.sep=⟨[32,32],1,some [32]⟩∨p.sep=⟨[41],0,some [32]⟩:=by
 have:=pick_in z3 t_sep t_sepB p.f (decide (p.spot=5)) (by decide) (by decide)
 simp only [t_sep,t_sepB,List.cons_append,List.nil_append,List.mem_cons,List.not_mem_nil,or_false] at this
 exact this
theorem first_neg:∀ l∈t_first,l.a<0:=by decide
theorem first_stat:∀ l∈t_first,isStat l.v=false:=by decide
theorem Pk.first_in (p:Pk) (h:¬ (p.kind=2∧p.spot=4)):p.first∈t_first:=by
 unfold Pk.first
 have e:(decide (p.kind=2) && decide (p.spot=4))=false:=by
  rw [Bool.and_eq_false_iff,decide_eq_false_iff_not,decide_eq_false_iff_not]; exact Decidable.not_and_iff_or_not.1 h
 rw [e]; exact pick_good _ _ _ _ (by decide)
noncomputable def Pk.more (p:Pk):List Part:=if 1<p.size then p.sep::[⟨opens p.k,deepAt p.depth p.k p.leaf,some (opens p.k)⟩,p.leaf.part,⟨closes p.k,-1,some (closes p.k)⟩] else []
noncomputable def Pk.moreV (p:Pk):List PV:=if 1<p.size then [nest p.k p.leaf.v] else []
theorem Pk.body_two (p:Pk) (h:0<p.size∨1<p.kind):p.body=p.first.part::p.more∧p.vals=p.first.v::p.moreV:=by
 unfold Pk.body Pk.vals bodyParts bodyVals Pk.more Pk.moreV
 have:0<p.size∨decide (1<p.kind)=true:=by rcases h with h | h; exact Or.inl h; exact Or.inr (by simpa using h)
 rw [if_pos this,if_pos this]
 exact ⟨rfl,rfl⟩
theorem Pk.body_none (p:Pk) (h:¬ 0<p.size) (h2:¬ 1<p.kind):p.body=[]∧p.vals=[]:=by
 unfold Pk.body Pk.vals bodyParts bodyVals
 have:¬ (0<p.size∨decide (1<p.kind)=true):=by intro h3; rcases h3 with h3 | h3; exact h h3; exact h2 (by simpa using h3)
 rw [if_neg this,if_neg this,if_neg (by lia),if_neg (by lia)]
 exact ⟨rfl,rfl⟩
theorem Rd.row {p:Pk} (hp:p.Ok) {d:Nat} (hd:p.Dep d) {V0 A1 V1 A2:List Int→PR β} {ps:List Part} {due:β}
  (hf:0≤p.first.a→Bad V0 p.first.w p.first.a.toNat DF) (hf2:p.first.a<0→p.first∈t_first)
  (g0:p.first.a<0→RowG (valP 3000 d) V0 A1 p.first.v) (s1:RowS A1 V1) (g1:RowG (valP 3000 d) V1 A2 (nest p.k p.leaf.v)) (b1:RowB (valP 3000 d) V1)
  (c:Int) (t:List Int) (hw:wires ps=c::t) (hc:c∈DV) (hN:(wires (p.first.part::(p.more++ps))).length≤2000)
  (h1:p.moreV=[]→Rd A1 ps due) (h2:p.moreV=[nest p.k p.leaf.v]→Rd A2 ps due):Rd V0 (p.first.part::(p.more++ps)) due:=by
 have hm:=mono_val 3000 d
 have hfr:p.first.a<0→VRd (valP 3000 d) p.first.part p.first.v DF:=fun h=>first_rd hd.mem (hf2 h)
 by_cases hs:1<p.size
 ·have e:p.more=p.sep::val3 d p.k p.leaf:=by unfold Pk.more val3; rw [if_pos hs,hd.eq]
  have e2:p.moreV=[nest p.k p.leaf.v]:=by unfold Pk.moreV; rw [if_pos hs]
  rw [e] at hN ⊢
  exact Rd.two hm hfr hf (leaf_rd hd.mem hp.kmem p.leaf_in) g0 s1 g1 b1 p.sep_in c t hw hc hN (h2 e2)
 ·have e:p.more=[]:=by unfold Pk.more; rw [if_neg hs]
  have e2:p.moreV=[]:=by unfold Pk.moreV; rw [if_neg hs]
  rw [e] at hN ⊢
  exact Rd.one hm hfr hf g0 c t hw hc (by rw [wires_cons,List.length_append] at hN; exact Nat.le_trans (by rw [List.nil_append]; lia) hN) (h1 e2)
noncomputable def own9 (spot:Int) (ps:List Part):List Part:=(if spot=9 then [noOwn] else [])++ps
theorem own9_rd {P:List Int→PR β} {ps:List Part} {due:β} (spot:Int) (h:Rd P ps due):Rd P (own9 spot ps) due:=by
 unfold own9; split
 ·exact Rd.skip rfl (by decide) h
 ·exact h
theorem own9_w (spot:Int) (ps:List Part):wires (own9 spot ps)=wires ps:=by
 unfold own9; split <;> rfl
noncomputable def cmd3 (d:Nat) (tag name:List Int):List Int→PR PV:=valsA d 3000 [] fun vs r=>.ok (.tuple [.bytes tag,.bytes (up name),.list vs]) r
noncomputable def cmd2 (d:Nat) (tag:List Int) (y:List Int):PR PV:=(runP 3000 isLet y).bind fun name r=>cmd3 d tag name r
noncomputable def cmd1 (d:Nat) (tag:List Int) (y:List Int):PR PV:=match y with
 | []=>.none
 | c::t=>if c=32 then cmd2 d tag t else .err
theorem cmd0_eq (d:Nat) (x:List Int):cmdP 3000 d x=(runP 3000 isTagC x).bind fun tag r=>cmd1 d tag r:=by
 unfold cmdP
 cases runP 3000 isTagC x with
 | none=>rfl
 | err=>rfl
 | stuck=>rfl
 | ok a r =>
  rw [pr_ok,pr_ok]
  cases r <;> rfl
theorem tag_closed:(t_tag.all fun q=>isNon (runP 3000 isTagC q.w) && isOk beqL (runP 3000 isTagC (q.w++[32])) q.w [32] && decide (q.w.length≤500))=true:=by decide +kernel
theorem tagB_closed:(([1,2,3]:List Nat).all fun d=>(⟨[],0,none⟩::t_tagB:List Part).all fun q=>ckBad (cmdP 3000 d) q.w q.a.toNat [32])=true:=by decide +kernel
theorem name_closed:(t_name.all fun q=>isNon (runP 3000 isLet q.w) && ([32,13,10].all fun c=>isOk beqL (runP 3000 isLet (q.w++[c])) q.w [c]) && decide (q.w.length≤500) && beqL (up q.w) q.x)=true:=by decide +kernel
theorem tag_neg:∀ l∈t_tag,l.a<0:=by decide
theorem tagB_pos:∀ l∈t_tagB,0≤l.a:=by decide
theorem name_neg:∀ l∈t_name,l.a<0:=by decide
theorem nameB_pos:∀ l∈t_nameB,0≤l.a:=by decide
end L2
end Mine
namespace Mine
namespace L2
variable {α β:Type}
theorem ne_cons {l:List Int} (h:l≠[]):∃ c t,l=c::t:=by cases l with | nil=>exact absurd rfl h | cons c t=>exact ⟨c,t,rfl⟩
theorem Rd.space {A V:List Int→PR β} {ps:List Part} {due:β} (h:∀ y,A (32::y)=V y) (hv:V []=.none) (hne:wires ps≠[]) (hN:(wires ps).length≤2000) (hr:Rd V ps due):Rd A (sp::ps) due:=by
 obtain ⟨c,t,hw⟩:=ne_cons hne
 exact Rd.cons (N:=2000) (P':=V) (D:=[c]) c t hw (List.mem_singleton.2 rfl) hN (fun _=>⟨(h []).trans hv,fun c _ t _=>h (c::t)⟩) (fun ha=>absurd ha (by decide)) (fun _=>hr)
theorem tag_step {q:Part} (hq:q∈t_tag) (d:Nat):Step 2000 (cmdP 3000 d) (cmd1 d q.w) q.w [32]:=by
 have h:=List.all_eq_true.1 tag_closed q hq
 simp only [Bool.and_eq_true,decide_eq_true_eq] at h
 refine ⟨by rw [cmd0_eq,isNon_so h.1.1]; rfl,fun c hc t ht=>?_⟩
 have e:=List.mem_singleton.1 hc
 subst e
 rw [cmd0_eq,run_step (isOk_so beqL_so h.1.2) h.2 t ht]; rfl
theorem name_step {q:Nam} (hq:q∈t_name) (d:Nat) (tag:List Int):Step 2000 (cmd2 d tag) (cmd3 d tag q.w) q.w [32,13,10]∧up q.w=q.x:=by
 have h:=List.all_eq_true.1 name_closed q hq
 simp only [Bool.and_eq_true,decide_eq_true_eq] at h
 refine ⟨⟨by unfold cmd2; rw [isNon_so h.1.1.1]; rfl,fun c hc t ht=>?_⟩,beqL_so _ _ h.2⟩
 unfold cmd2
 rw [run_step (isOk_so beqL_so (List.all_eq_true.1 h.1.1.2 c hc)) h.1.2 t ht]; rfl
noncomputable def base2 (d:Nat) (y:List Int):PR (List PV):=(runP 3000 isLet y).bind fun _ r=>valsN (valP 3000 d) 3000 [] r
theorem base2_none {d:Nat} {y:List Int} (tag:List Int) (h:base2 d y=.none):cmd2 d tag y=.none:=by
 unfold base2 at h; unfold cmd2
 cases hr:runP 3000 isLet y with
 | none=>rfl
 | err=>rw [hr] at h; cases h
 | stuck=>rw [hr] at h; cases h
 | ok a r=>rw [hr,pr_ok] at h; rw [pr_ok]; unfold cmd3 valsA; rw [h]; rfl
theorem base2_err {d:Nat} {y:List Int} (tag:List Int) (h:base2 d y=.err):cmd2 d tag y=.err:=by
 unfold base2 at h; unfold cmd2
 cases hr:runP 3000 isLet y with
 | none=>rw [hr] at h; cases h
 | err=>rfl
 | stuck=>rw [hr] at h; cases h
 | ok a r=>rw [hr,pr_ok] at h; rw [pr_ok]; unfold cmd3 valsA; rw [h]; rfl
theorem nameB_closed:(([1,2,3]:List Nat).all fun d=>t_nameB.all fun q=>ckBad (base2 d) q.w q.a.toNat [32,13,10])=true:=by decide +kernel
theorem name_bad {q:Nam} (hq:q∈t_nameB) {d:Nat} (hd:d∈[1,2,3]) (tag:List Int):Bad (cmd2 d tag) q.w q.a.toNat [32,13,10]:=by
 have b:=ckBad_so (List.all_eq_true.1 (List.all_eq_true.1 nameB_closed d hd) q hq)
 exact ⟨b.le,fun c hc=>base2_none tag (b.none c hc),fun c hc=>base2_err tag (b.err c hc)⟩
noncomputable def Pk.row0 (p:Pk) (e:Part):List Part:=if 0<p.size then sp::p.first.part::(p.more++own9 p.spot [e]) else own9 p.spot [e]
noncomputable def Pk.row0V (p:Pk):List PV:=if 0<p.size then p.first.v::p.moreV else []
theorem row0_rd {p:Pk} (hp:p.Ok) (hk:p.kind=0) {d:Nat} (hd:p.Dep d) {e:Part} (he:e∈ends) (f:List PV→β) (hN:(wires (p.row0 e)).length≤2000) :
  Rd (valsA d 3000 [] fun vs r=>.ok (f vs) r) (p.row0 e) (f p.row0V):=by
 unfold Pk.row0 Pk.row0V at *
 obtain ⟨c,t,hw,hc,hl⟩:=end_lead he
 have hw9:wires (own9 p.spot [e])=c::t:=by rw [own9_w,← hw]; exact List.append_nil _
 split
 ·rename_i hs
  rw [if_pos hs] at hN
  have hf:p.first∈t_first:=p.first_in (by lia)
  have hN2:(wires (p.first.part::(p.more++own9 p.spot [e]))).length≤2000:=by rw [wires_cons,List.length_append] at hN; lia
  refine Rd.space (vals_sp d 2999 [] _) (by unfold rowV; rw [v_nil]; rfl) ?_ hN2 ?_
  ·rw [wires_cons,wires_app,hw9]; simp
  ·refine Rd.row hp hd (fun h=>absurd (first_neg _ hf) (by lia)) (fun _=>hf) (fun _=>rowG_of rfl) (vals_S d 2998 _ _) (rowG_of rfl) (rowB_of (fun _=>rfl) fun a c t h1 h2 h3=>vals_not _ _ _ _ _ _ h1 h2) c t hw9 hc hN2 (fun h=>?_) (fun h=>?_)
   ·rw [h]; exact own9_rd _ (vals_end he d 2998 [p.first.v] f)
   ·rw [h]; exact own9_rd _ (vals_end he d 2997 [p.first.v,nest p.k p.leaf.v] f)
 ·exact own9_rd _ (vals_end he d 2999 [] f)
theorem kind0 {p:Pk} (hp:p.Ok) (hk:p.kind=0) {d:Nat} (hd:p.Dep d) (hN:(wires p.made.1).length≤2000):Rd (cmdP 3000 d) p.made.1 p.made.2.2:=by
 let e:=pick z3 t_end t_endB p.c (decide (p.spot=8))
 have he:e∈ends:=pick_in _ _ _ _ _ (by decide) (by decide)
 let name:=pick z5 t_name t_nameB p.b (decide (p.spot=4))
 let tag':=if p.spot=6 then (⟨[],0,none⟩:Part) else pick z3 t_tag t_tagB p.a (decide (p.spot=3))
 have hv:p.vals=p.row0V:=by
  unfold Pk.row0V
  by_cases hs:0<p.size
  ·rw [if_pos hs]; exact (p.body_two (Or.inl hs)).2
  ·rw [if_neg hs]; exact (p.body_none hs (by lia)).2
 have hm1:p.made.1=tag'::sp::name.part::p.row0 e:=by
  unfold Pk.made L2.mk
  rw [if_pos hk]
  show [tag',sp,name.part]++(if p.vals≠[] then [sp]++(if p.spot=9 then p.body++[noOwn] else p.body) else (if p.spot=9 then p.body++[noOwn] else p.body))++[e]=_
  unfold Pk.row0 own9
  by_cases hs:0<p.size
  ·rw [if_pos hs,(p.body_two (Or.inl hs)).2,(p.body_two (Or.inl hs)).1,if_pos (by intro h; cases h)]
   split <;> simp
  ·rw [if_neg hs,(p.body_none hs (by lia)).2,(p.body_none hs (by lia)).1,if_neg (by intro h; exact h rfl)]
   split <;> simp
 have hm2:p.made.2.2=.tuple [.bytes tag'.w,.bytes name.x,.list p.row0V]:=by
  rw [← hv]
  unfold Pk.made L2.mk
  rw [if_pos hk]
 rw [hm1] at hN ⊢
 rw [hm2]
 have n1:(wires (sp::name.part::p.row0 e)).length≤2000:=by rw [wires_cons,List.length_append] at hN; lia
 have n2:(wires (name.part::p.row0 e)).length≤2000:=by rw [wires_cons,List.length_append] at n1; lia
 have n3:(wires (p.row0 e)).length≤2000:=by rw [wires_cons,List.length_append] at n2; lia
 obtain ⟨c,t,hw,hc⟩:∃ c t,wires (p.row0 e)=c::t∧c∈[32,13,10]:=by
  unfold Pk.row0
  split
  ·exact ⟨32,_,rfl,by decide⟩
  ·rw [own9_w,wires_cons]
   have hx:e=⟨[13,10],-1,some [13,10]⟩∨e=⟨[13,13],1,none⟩∨e=⟨[10],0,none⟩∨e=⟨[13,120],1,none⟩:=by
    simp only [ends,t_end,t_endB,List.cons_append,List.nil_append,List.mem_cons,List.not_mem_nil,or_false] at he; exact he
   rcases hx with h | h | h | h <;> rw [h] <;> exact ⟨_,_,rfl,by decide⟩
 have r3:Rd (cmd3 d tag'.w name.w) (p.row0 e) (.tuple [.bytes tag'.w,.bytes (up name.w),.list p.row0V]):=row0_rd hp hk hd he (fun vs=>PV.tuple [.bytes tag'.w,.bytes (up name.w),.list vs]) n3
 have r2:Rd (cmd2 d tag'.w) (name.part::p.row0 e) (.tuple [.bytes tag'.w,.bytes name.x,.list p.row0V]):=by
  rcases List.mem_append.1 (pick_in z5 t_name t_nameB p.b (decide (p.spot=4)) (by decide) (by decide)) with h | h
  ·have s:=name_step h d tag'.w
   have hneg:name.a<0:=name_neg _ h
   refine Rd.cons (N:=2000) (P':=cmd3 d tag'.w name.w) (D:=[32,13,10]) c t hw hc n3 (fun _=>s.1) (fun ha=>?_) (fun _=>?_)
   ·have:0≤name.a:=ha; lia
   ·have:up name.w=name.x:=s.2
    rw [← this]; exact r3
  ·have hpos:0≤name.a:=nameB_pos _ h
   refine Rd.cons (N:=2000) (P':=cmd3 d tag'.w name.w) (D:=[32,13,10]) c t hw hc n3 (fun ha=>?_) (fun _=>name_bad h hd.mem tag'.w) (fun ha=>?_)
   ·have:name.a<0:=ha; lia
   ·have:name.a<0:=ha; lia
 have r1:Rd (cmd1 d tag'.w) (sp::name.part::p.row0 e) (.tuple [.bytes tag'.w,.bytes name.x,.list p.row0V]) :=
  Rd.space (fun y=>rfl) rfl (by rw [wires_cons,hw]; simp) n2 r2
 have ht:(tag'∈t_tag∧tag'.a<0)∨(tag'∈(⟨[],0,none⟩::t_tagB:List Part)∧0≤tag'.a):=by
  show ((if p.spot=6 then (⟨[],0,none⟩:Part) else pick z3 t_tag t_tagB p.a (decide (p.spot=3)))∈t_tag∧(if p.spot=6 then (⟨[],0,none⟩:Part) else pick z3 t_tag t_tagB p.a (decide (p.spot=3))).a<0)∨((if p.spot=6 then (⟨[],0,none⟩:Part) else pick z3 t_tag t_tagB p.a (decide (p.spot=3)))∈_∧0≤(if p.spot=6 then (⟨[],0,none⟩:Part) else pick z3 t_tag t_tagB p.a (decide (p.spot=3))).a)
  split
  ·right; exact ⟨List.mem_cons_self,by decide⟩
  ·rcases List.mem_append.1 (pick_in z3 t_tag t_tagB p.a (decide (p.spot=3)) (by decide) (by decide)) with h | h
   ·left; exact ⟨h,tag_neg _ h⟩
   ·right; exact ⟨List.mem_cons_of_mem _ h,tagB_pos _ h⟩
 rcases ht with ⟨h,ha⟩ | ⟨h,ha⟩
 ·exact Rd.cons (N:=2000) (P':=cmd1 d tag'.w) (D:=[32]) 32 _ rfl (by decide) n1 (fun _=>tag_step h d) (fun h=>by lia) (fun _=>r1)
 ·exact Rd.cons (N:=2000) (P':=cmd1 d tag'.w) (D:=[32]) 32 _ rfl (by decide) n1 (fun h=>by lia) (fun _=>ckBad_so (List.all_eq_true.1 (List.all_eq_true.1 tagB_closed d hd.mem) _ h)) (fun h=>by lia)
end L2
end Mine
namespace Mine
namespace L2
variable {α β:Type}
theorem line43 (d:Nat) (t:List Int):lineP 3000 d (43::t)=contP 3000 t:=by unfold lineP; exact if_pos rfl
theorem line42 (d:Nat) (t:List Int):lineP 3000 d (42::t)=goP 3000 d [] t:=by unfold lineP; exact (if_neg (by decide)).trans (if_pos rfl)
theorem line_nil (d:Nat):lineP 3000 d []=.none:=by
 have h:runP 3000 isTagC []=.none:=rfl
 unfold lineP
 show (runP 3000 isTagC []).bind _=_
 rw [h]; rfl
theorem go32 (d:Nat) (tag t:List Int):goP 3000 d tag (32::t)=restP 3000 d tag t:=by unfold goP; exact if_pos rfl
theorem go_no (d:Nat) (tag t:List Int) {c:Int} (h:c≠32):goP 3000 d tag (c::t)=.err:=by unfold goP; exact if_neg h
theorem rest_nil (d:Nat):restP 3000 d [] []=.none:=by
 have:statP []=none:=rfl
 unfold restP
 rw [this]
 show (dataN (valP 3000 d) 3000 [] []).bind _=_
 rw [dataN,v_nil]; rfl
theorem kind1 {p:Pk} (hk:p.kind=1) (d:Nat):Rd (lineP 3000 d) p.made.1 p.made.2.2:=by
 let e:=pick z3 t_end t_endB p.c (decide (p.spot=8))
 have he:e∈ends:=pick_in _ _ _ _ _ (by decide) (by decide)
 let tx:=pick z3 t_text t_textB p.c (decide (p.spot=7))
 have ht:tx∈texts:=pick_in _ _ _ _ _ (by decide) (by decide)
 let q:=pick z3 t_plus t_plusB p.a (decide (p.spot=3))
 have hq:q∈t_plus++t_plusB:=pick_in _ _ _ _ _ (by decide) (by decide)
 have hm:p.made=([q,tx,e],.tuple [.str [99,111,110,116,105,110,117,101],.bytes tx.w],.tuple [.str [99,111,110,116,105,110,117,101],.bytes tx.w]):=by
  unfold Pk.made L2.mk
  rw [if_neg (by lia),if_pos hk]; rfl
 rw [hm]
 have h:=rdB_so peq_sound (List.all_eq_true.1 (List.all_eq_true.1 (List.all_eq_true.1 plus_all q hq) tx ht) e he)
 refine Rd.congr (fun n=>?_) h
 cases n with
 | zero=>rw [List.take_zero,line_nil,line_nil]
 | succ n =>
  obtain ⟨t,hw⟩:∃ t,q.w=43::t:=by
   have hx:q=⟨[43,32],-1,some [43,32]⟩∨q=⟨[43,120],1,some [43,32]⟩:=by
    simp only [t_plus,t_plusB,List.cons_append,List.nil_append,List.mem_cons,List.not_mem_nil,or_false] at hq; exact hq
   rcases hx with h | h <;> rw [h] <;> exact ⟨_,rfl⟩
  rw [wires_cons,hw,List.cons_append,List.take_succ_cons,line43,line43]
noncomputable def noStat (x:List Int):Bool:=statuses.all fun w=>if x.length≤w.length+1 then decide ((w++[32]).take (up x).length≠up x) else !hit x w
theorem noStat_so {x:List Int} (h:noStat x=true) (y:List Int):statP (x++y)=none:=by
 rw [statP_eq,List.find?_eq_none]
 intro w hw ht
 have:=List.all_eq_true.1 h w hw
 split at this
 ·rename_i hl
  exact (of_decide_eq_true this) (hit_prefix ht hl)
 ·rename_i hl
  rw [hit_ext (by lia)] at ht
  rw [ht] at this; cases this
noncomputable def dataK (vs:List PV) (r:List Int):PR PV:=.ok (.tuple [.str [100,97,116,97],.list vs]) r
noncomputable def data0 (d:Nat) (y:List Int):PR PV:=(dataN (valP 3000 d) 3000 [] y).bind dataK
theorem rest_no {x:List Int} (d:Nat) (h:statP x=none):restP 3000 d [] x=data0 d x:=by
 unfold restP data0; rw [h]; exact if_neg (fun h=>h rfl)
theorem rest_take {x:List Int} (d:Nat) (h:statP x=none) (n:Nat):restP 3000 d [] (x.take n)=data0 d (x.take n):=by
 refine rest_no d ?_
 cases hs:statP (x.take n) with
 | none=>rfl
 | some w =>
  have:=statP_some hs (x.drop n)
  rw [List.take_append_drop,h] at this; cases this
theorem nostat_closed:((t_first++t_firstB).all fun l=>noStat l.w)=true:=by decide +kernel
theorem firstB_closed:(([1,2,3]:List Nat).all fun d=>t_firstB.all fun l=>ckBad (data0 d) l.w l.a.toNat DF)=true:=by decide +kernel
theorem firstB_pos:∀ l∈t_firstB,0≤l.a:=by decide
theorem kind2 {p:Pk} (hp:p.Ok) (hk:p.kind=2) {d:Nat} (hd:p.Dep d) (hN:(wires p.made.1).length≤2000):Rd (lineP 3000 d) p.made.1 p.made.2.2:=by
 let e:=pick z3 t_end t_endB p.c (decide (p.spot=8))
 have he:e∈ends:=pick_in _ _ _ _ _ (by decide) (by decide)
 let q:=pick z3 t_star t_starB p.a (decide (p.spot=3))
 have hq:q∈t_star++t_starB:=pick_in _ _ _ _ _ (by decide) (by decide)
 have hf:p.first∈t_first++t_firstB:=pick_in _ _ _ _ _ (by decide) (by decide)
 have hb:=p.body_two (Or.inr (by lia))
 have hm1:p.made.1=q::p.first.part::(p.more++own9 p.spot [e]):=by
  unfold Pk.made L2.mk
  rw [if_neg (by lia),if_neg (by lia),if_pos hk]
  show [q]++(if p.spot=9 then p.body++[noOwn] else p.body)++[e]=_
  rw [hb.1]; unfold own9
  split <;> simp
 have hm2:p.made.2.2=.tuple [.str [100,97,116,97],.list (p.first.v::p.moreV)]:=by
  rw [← hb.2]
  unfold Pk.made L2.mk
  rw [if_neg (by lia),if_neg (by lia),if_pos hk]
 rw [hm1] at hN ⊢
 rw [hm2]
 have n1:(wires (p.first.part::(p.more++own9 p.spot [e]))).length≤2000:=by rw [wires_cons,List.length_append] at hN; lia
 obtain ⟨c,t,hw,hc,hl⟩:=end_lead he
 have hw9:wires (own9 p.spot [e])=c::t:=by rw [own9_w,← hw]; exact List.append_nil _
 have hneg:p.first.a<0→p.first∈t_first:=by
  intro h
  rcases List.mem_append.1 hf with h1 | h1
  ·exact h1
  ·have:=firstB_pos _ h1; lia
 have hpos:0≤p.first.a→p.first∈t_firstB:=by
  intro h
  rcases List.mem_append.1 hf with h1 | h1
  ·have:=first_neg _ h1; lia
  ·exact h1
 have r0:Rd (data0 d) (p.first.part::(p.more++own9 p.spot [e])) (.tuple [.str [100,97,116,97],.list (p.first.v::p.moreV)]):=by
  refine Rd.row hp hd (fun h=>ckBad_so (List.all_eq_true.1 (List.all_eq_true.1 firstB_closed d hd.mem) _ (hpos h))) hneg (fun h=>data_G d 2999 dataK p.first.v (first_stat _ (hneg h))) (data_S d 2998 _ rfl _) (rowG_of rfl) (rowB_of (fun _=>rfl) fun a c t h1 h2 h3=>data_not _ _ _ _ _ _ h1 h2) c t hw9 hc n1 (fun h=>?_) (fun h=>?_)
  ·rw [h]; exact own9_rd _ (data_end he d 2999 [p.first.v] fun vs=>PV.tuple [.str [100,97,116,97],.list vs])
  ·rw [h]; exact own9_rd _ (data_end he d 2998 [p.first.v,nest p.k p.leaf.v] fun vs=>PV.tuple [.str [100,97,116,97],.list vs])
 have ns:statP (wires (p.first.part::(p.more++own9 p.spot [e])))=none:=by
  rw [wires_cons]; exact noStat_so (List.all_eq_true.1 nostat_closed _ hf) _
 have r1:Rd (restP 3000 d []) (p.first.part::(p.more++own9 p.spot [e])) (.tuple [.str [100,97,116,97],.list (p.first.v::p.moreV)]) :=
  Rd.congr (fun n=>rest_take d ns n) r0
 obtain ⟨c1,t1,hw1⟩:=ne_cons (show wires (p.first.part::(p.more++own9 p.spot [e]))≠[] by rw [wires_cons,wires_app,hw9]; simp)
 have hx:q=⟨[42,32],-1,some [42,32]⟩∨q=⟨[42,120],1,some [42,32]⟩:=by
  simp only [t_star,t_starB,List.cons_append,List.nil_append,List.mem_cons,List.not_mem_nil,or_false] at hq; exact hq
 refine Rd.cons (N:=2000) (P':=restP 3000 d []) (D:=[c1]) c1 t1 hw1 (List.mem_singleton.2 rfl) n1 ?_ ?_ (fun _=>r1)
 ·intro ha
  rcases hx with h | h
  ·rw [h]
   exact ⟨(line42 d [32]).trans ((go32 d [] []).trans (rest_nil d)),fun c _ t _=>(line42 d (32::c::t)).trans (go32 d [] (c::t))⟩
  ·rw [h] at ha; exact absurd ha (by decide)
 ·intro ha
  rcases hx with h | h
  ·rw [h] at ha; exact absurd ha (by decide)
  ·rw [h]
   exact ⟨by decide,fun c _=>line42 d [],fun c _=>(line42 d [120]).trans (go_no d [] [] (by decide))⟩
end L2
end Mine
namespace Mine
namespace L2
variable {α β:Type}
theorem line_tag (d:Nat) {c:Int} (t:List Int) (h:c≠43) (h2:c≠42):lineP 3000 d (c::t)=(runP 3000 isTagC (c::t)).bind (goP 3000 d):=by unfold lineP; exact (if_neg h).trans (if_neg h2)
theorem tag_head:∀ q∈t_tag,∃ c t,q.w=c::t∧c≠43∧c≠42:=by
 intro q hq
 have hx:q=⟨[97,49],-1,some [97,49]⟩∨q=⟨[65,90,97,122,48,57,45],-1,some [65,90,97,122,48,57,45]⟩∨q=⟨[45,120],-1,some [45,120]⟩:=by
  simp only [t_tag,List.mem_cons,List.not_mem_nil,or_false] at hq; exact hq
 rcases hx with h | h | h <;> rw [h] <;> exact ⟨_,_,rfl,by decide,by decide⟩
theorem tag_line {q:Part} (hq:q∈t_tag) (d:Nat):Step 2000 (lineP 3000 d) (goP 3000 d q.w) q.w [32]:=by
 have h:=List.all_eq_true.1 tag_closed q hq
 simp only [Bool.and_eq_true,decide_eq_true_eq] at h
 obtain ⟨c0,t0,hw,h43,h42⟩:=tag_head q hq
 have e:∀ y,lineP 3000 d (q.w++y)=(runP 3000 isTagC (q.w++y)).bind (goP 3000 d):=by
  intro y; rw [hw]; exact line_tag d _ h43 h42
 refine ⟨?_,fun c hc t ht=>?_⟩
 ·have:=e []
  rw [List.append_nil] at this
  rw [this,isNon_so h.1.1]; rfl
 ·have e2:=List.mem_singleton.1 hc
  subst e2
  rw [e,run_step (isOk_so beqL_so h.1.2) h.2 t ht]; rfl
theorem tagB_line:(([1,2,3]:List Nat).all fun d=>t_tagB.all fun q=>ckBad (lineP 3000 d) q.w q.a.toNat [32])=true:=by decide +kernel
theorem rest_nil' (d:Nat) (tag:List Int):restP 3000 d tag []=.none:=by
 by_cases h:tag=[]
 ·rw [h]; exact rest_nil d
 ·have h0:statP []=none:=rfl
  have h1:statuses.any (fun w=>decide ((w++[32]).take (up []).length=up []))=true:=by decide
  unfold restP
  rw [h0]
  show (if tag≠[] then (if ([]:List Int).length≤4∧statuses.any (fun w=>decide ((w++[32]).take (up []).length=up []))=true then PR.none else .err) else _)=_
  rw [if_pos h,if_pos ⟨by decide,h1⟩]
theorem word_closed:(t_word.all fun q=>(match statP (q.w++[32]) with | some x=>beqL x q.x && decide (q.w.length=q.x.length) | none=>false))=true:=by decide +kernel
theorem word_neg:∀ q∈t_word,q.a<0:=by decide
theorem wordB_pos:∀ q∈t_wordB,0≤q.a:=by decide
theorem word_go {q:Nam} (hq:q∈t_word) (d:Nat) (tag y:List Int):restP 3000 d tag ((q.w++[32])++y)=statRest 3000 d tag q.x y:=by
 have h:=List.all_eq_true.1 word_closed q hq
 cases hs:statP (q.w++[32]) with
 | none=>rw [hs] at h; cases h
 | some x =>
  rw [hs] at h
  simp only [Bool.and_eq_true,decide_eq_true_eq] at h
  have hx:=beqL_so _ _ h.1
  subst hx
  unfold restP
  rw [statP_some hs y]
  show statRest 3000 d tag q.x (((q.w++[32])++y).drop (q.x.length+1))=_
  rw [show q.x.length+1=(q.w++[32]).length by rw [List.length_append,h.2]; rfl,List.drop_left]
theorem wordB_closed:(([1,2,3]:List Nat).all fun d=>t_tag.all fun g=>t_wordB.all fun q=>ckBad (restP 3000 d g.w) q.w q.a.toNat [32])=true:=by decide +kernel
theorem stat91 (d:Nat) (tag w t:List Int):statRest 3000 d tag w (91::t)=(codeN (valP 3000 d) 3000 [] t).bind (codeEnd 3000 tag w):=by unfold statRest; exact if_pos rfl
theorem stat_no (d:Nat) (tag w t:List Int) {c:Int} (h:c≠91):statRest 3000 d tag w (c::t)=finP 3000 tag w .none (c::t):=by unfold statRest; exact if_neg h
theorem stat_nil (d:Nat) (tag w:List Int):statRest 3000 d tag w []=.none:=by unfold statRest; rfl
theorem v_bad (d:Nat) {c:Int} (h:c∈[13,10,93,32]):valP 3000 d [c]=.err:=by
 have hc:c=13∨c=10∨c=93∨c=32:=by simpa using h
 rcases hc with h | h | h | h <;> subst h <;> cases d <;> rfl
theorem code_bad (d n:Nat) (acc:List PV) (K:List PV→List Int→PR β) {c:Int} (h:c∈[13,10,93,32]):(codeN (valP 3000 d) (n+1) acc [c]).bind K=.err:=by
 rw [code_V]; unfold rowV; rw [v_bad d h]; rfl
theorem code_nil (d n:Nat) (acc:List PV) (K:List PV→List Int→PR β):(codeN (valP 3000 d) (n+1) acc []).bind K=.none:=by
 rw [code_V]; unfold rowV; rw [v_nil]; rfl
theorem lead_closed:(texts.all fun t=>ends.all fun e=>beqL t.w [91] || (match wires [t,e] with | c::_=>decide (c≠91) | []=>false))=true:=by decide +kernel
theorem fin_nil (tag w:List Int) (code:PV):finP 3000 tag w code []=.none:=rfl
theorem text3 {t e:Part} (ht:t∈texts) (he:e∈ends) (d:Nat) (tag w:List Int) :
  Rd (statRest 3000 d tag w) [if t.w=[91] then ⟨[91],1,none⟩ else t,e] (.tuple [.str [115,116,97,116,117,115],.bytes tag,.bytes w,.none,.bytes (if t.w=[91] then (⟨[91],1,none⟩:Part) else t).w]):=by
 by_cases h:t.w=[91]
 ·rw [if_pos h]
  obtain ⟨c,u,hw,hc,hl⟩:=end_lead he
  have hw1:wires [e]=c::u:=by rw [← hw]; exact List.append_nil _
  refine Rd.cons (N:=2000) (P':=statRest 3000 d tag w) (D:=DV) c u hw1 hc (by rw [hw1,← hw]; lia) (fun ha=>absurd ha (by decide)) (fun _=>?_) (fun ha=>absurd ha (by decide))
  exact ⟨by decide,fun c _=>(stat91 d tag w []).trans (code_nil d 2999 _ _),fun c hc=>(stat91 d tag w [c]).trans (code_bad d 2999 _ _ hc)⟩
 ·rw [if_neg h]
  have hl:=List.all_eq_true.1 (List.all_eq_true.1 lead_closed t ht) e he
  refine Rd.congr (fun n=>?_) (fin_rd ht he tag w .none)
  cases hw:wires [t,e] with
  | nil=>rw [List.take_nil,stat_nil,fin_nil]
  | cons c u =>
   rw [hw] at hl
   have hc:c≠91:=by
    simp only [Bool.or_eq_true,decide_eq_true_eq] at hl
    rcases hl with h1 | h1
    ·exact absurd (beqL_so _ _ h1) h
    ·exact h1
   cases n with
   | zero=>rw [List.take_zero,stat_nil,fin_nil]
   | succ n=>rw [List.take_succ_cons]; exact stat_no d tag w _ hc
theorem code93 (d n:Nat) (acc:List PV) (tag w t:List Int):codeA d n acc (codeEnd 3000 tag w) (93::t)=codeEnd 3000 tag w acc t:=by unfold codeA; exact if_pos rfl
theorem code32 (d n:Nat) (acc:List PV) (tag w t:List Int):codeA d n acc (codeEnd 3000 tag w) (32::t)=(codeN (valP 3000 d) n acc t).bind (codeEnd 3000 tag w):=by unfold codeA; exact (if_neg (by decide)).trans (if_pos rfl)
theorem end32 (tag w:List Int) (acc:List PV) (t:List Int):codeEnd 3000 tag w acc (32::t)=finP 3000 tag w (.list acc) t:=by unfold codeEnd; exact if_pos rfl
theorem right3 {r:Part} (hr:r=⟨[93,32],-1,some [93,32]⟩∨r=⟨[93,120],1,none⟩∨r=⟨[93,32,91],2,none⟩∨r=⟨[32,93],1,none⟩) {t e:Part} (ht:t∈texts) (he:e∈ends)
  (hN:(wires [t,e]).length≤2000) (d n:Nat) (acc:List PV) (tag w:List Int):Rd (codeA d (n+1) acc (codeEnd 3000 tag w)) [r,t,e] (.tuple [.str [115,116,97,116,117,115],.bytes tag,.bytes w,.list acc,.bytes t.w]):=by
 obtain ⟨c0,u,hw,hc,hl⟩:=end_lead he
 obtain ⟨c,v,hwt⟩:=ne_cons (show wires [t,e]≠[] by rw [wires_cons,wires_cons,hw]; simp)
 refine Rd.cons (N:=2000) (P':=finP 3000 tag w (.list acc)) (D:=[c]) c v hwt (List.mem_singleton.2 rfl) hN ?_ ?_ (fun _=>fin_rd ht he tag w (.list acc))
 ·intro ha
  rcases hr with h | h | h | h
  ·rw [h]
   exact ⟨(code93 d _ acc tag w [32]).trans ((end32 tag w acc []).trans (fin_nil _ _ _)),fun c _ t _=>(code93 d _ acc tag w (32::c::t)).trans (end32 tag w acc (c::t))⟩
  all_goals (rw [h] at ha; exact absurd ha (by decide))
 ·intro ha
  rcases hr with h | h | h | h
  ·rw [h] at ha; exact absurd ha (by decide)
  ·rw [h]
   exact ⟨by decide,fun c _=>(code93 d _ acc tag w []),fun c _=>(code93 d _ acc tag w [120])⟩
  ·rw [h]
   exact ⟨by decide,fun c _=>(code93 d _ acc tag w [32]).trans ((end32 tag w acc []).trans (fin_nil _ _ _)),fun c _=>(code93 d _ acc tag w [32,91]).trans ((end32 tag w acc [91]).trans rfl)⟩
  ·rw [h]
   exact ⟨by decide,fun c _=>(code32 d _ acc tag w []).trans (code_nil d n _ _),fun c _=>(code32 d _ acc tag w [93]).trans (code_bad d n _ _ (by decide))⟩
theorem lr_in (spot a:Int):((lrOf spot a).1=⟨[91],-1,some [91]⟩∨(lrOf spot a).1=⟨[91,93],1,none⟩∨(lrOf spot a).1=⟨[91,32],1,none⟩) ∧
  ((lrOf spot a).2=⟨[93,32],-1,some [93,32]⟩∨(lrOf spot a).2=⟨[93,120],1,none⟩∨(lrOf spot a).2=⟨[93,32,91],2,none⟩∨(lrOf spot a).2=⟨[32,93],1,none⟩):=by
 unfold lrOf
 split
 ·split
  ·simp
  ·split
   ·simp
   ·split
    ·simp
    ·split <;> simp
 ·simp
theorem merge2_a {q:Nam} (h:q.a<0):(merge [q.part,sp]).a=-1:=by
 show edgeOf [q.part,sp] 0=-1
 rw [edgeOf,if_neg (by show ¬ 0≤q.a; lia)]; rfl
theorem head3 {p:Pk} (hp:p.Ok) {d:Nat} (hd:d∈[1,2,3]) {ps:List Part} {due:List Int→List Int→PV} (hne:wires ps≠[]) (hN:(wires ps).length≤1500)
  (hr:∀ tag w,Rd (statRest 3000 d tag w) ps (due tag w)) :
  Rd (lineP 3000 d) ((if 0<p.star then ⟨[42],-1,some [42]⟩ else pick z3 t_tag t_tagB p.a (decide (p.spot=3)))::sp::(pick z5 t_word t_wordB p.b (decide (p.spot=4) && decide (p.star=0))).part::sp::ps)
   (due (if 0<p.star then [] else (pick z3 t_tag t_tagB p.a (decide (p.spot=3))).w) (pick z5 t_word t_wordB p.b (decide (p.spot=4) && decide (p.star=0))).x):=by
 generalize hq:pick z5 t_word t_wordB p.b (decide (p.spot=4) && decide (p.star=0))=q
 generalize hg:pick z3 t_tag t_tagB p.a (decide (p.spot=3))=g
 have hlq:∀ q∈t_word++t_wordB,q.w.length≤100:=by decide
 have hqin:q∈t_word++t_wordB:=by rw [← hq]; exact pick_in _ _ _ _ _ (by decide) (by decide)
 have n1:(wires (sp::ps)).length≤1600:=by rw [wires_cons,List.length_append]; show 1+_≤_; lia
 have n2:(wires (q.part::sp::ps)).length≤1800:=by rw [wires_cons,List.length_append]; have:q.part.w.length≤100:=hlq q hqin; lia
 have n3:(wires (sp::q.part::sp::ps)).length≤2000:=by rw [wires_cons,List.length_append]; show 1+_≤_; lia
 obtain ⟨c,t,hw⟩:=ne_cons hne
 have good:q∈t_word→∀ tag,Rd (restP 3000 d tag) (q.part::sp::ps) (due tag q.x):=by
  intro h tag
  refine Rd.merge (vp:=[q.part,sp]) (Rd.cons (N:=2000) (P':=statRest 3000 d tag q.x) (D:=[c]) c t hw (List.mem_singleton.2 rfl) (by lia) (fun _=>?_) (fun ha=>?_) (fun _=>hr tag q.x))
  ·refine ⟨?_,fun c _ t _=>word_go h d tag (c::t)⟩
   have:=word_go h d tag []
   rw [List.append_nil,stat_nil] at this
   exact this
  ·rw [merge2_a (word_neg q h)] at ha; exact absurd ha (by decide)
 by_cases hs:0<p.star
 ·rw [if_pos hs,if_pos hs]
  have hq':q∈t_word:=by
   have e:(decide (p.spot=4) && decide (p.star=0))=false:=by rw [Bool.and_eq_false_iff]; right; exact decide_eq_false (by lia)
   rw [← hq,e]; exact pick_good _ _ _ _ (by decide)
  have r1:Rd (goP 3000 d []) (sp::q.part::sp::ps) (due [] q.x):=Rd.space (go32 d []) (rest_nil' d []) (by rw [wires_cons,wires_cons]; show q.part.w++(32::wires ps)≠[]; simp) (by lia) (good hq' [])
  exact Rd.cons (N:=2000) (P':=goP 3000 d []) (D:=[32]) 32 _ rfl (by decide) n3 (fun _=>⟨line42 d [],fun c _ t _=>line42 d (c::t)⟩) (fun h=>absurd h (by decide)) (fun _=>r1)
 ·rw [if_neg hs,if_neg hs]
  have hgin:g∈t_tag++t_tagB:=by rw [← hg]; exact pick_in _ _ _ _ _ (by decide) (by decide)
  rcases List.mem_append.1 hgin with h | h
  ·have r0:Rd (restP 3000 d g.w) (q.part::sp::ps) (due g.w q.x):=by
    rcases List.mem_append.1 hqin with h1 | h1
    ·exact good h1 g.w
    ·have hpos:=wordB_pos q h1
     refine Rd.cons (N:=2000) (P':=restP 3000 d g.w) (D:=[32]) 32 _ rfl (by decide) (by lia) (fun ha=>?_) (fun _=>ckBad_so (List.all_eq_true.1 (List.all_eq_true.1 (List.all_eq_true.1 wordB_closed d hd) g h) q h1)) (fun ha=>?_)
     ·have:q.a<0:=ha; lia
     ·have:q.a<0:=ha; lia
   have r1:Rd (goP 3000 d g.w) (sp::q.part::sp::ps) (due g.w q.x):=Rd.space (go32 d g.w) (rest_nil' d g.w) (by rw [wires_cons,wires_cons]; show q.part.w++(32::wires ps)≠[]; simp) (by lia) r0
   exact Rd.cons (N:=2000) (P':=goP 3000 d g.w) (D:=[32]) 32 _ rfl (by decide) n3 (fun _=>tag_line h d) (fun ha=>by have:=tag_neg g h; lia) (fun _=>r1)
  ·have hpos:=tagB_pos g h
   exact Rd.cons (N:=2000) (P':=goP 3000 d g.w) (D:=[32]) 32 _ rfl (by decide) n3 (fun ha=>by lia) (fun _=>ckBad_so (List.all_eq_true.1 (List.all_eq_true.1 tagB_line d hd) g h)) (fun ha=>by lia)
theorem left3 {l:Part} (hl:l=⟨[91],-1,some [91]⟩∨l=⟨[91,93],1,none⟩∨l=⟨[91,32],1,none⟩) {ps:List Part} {due:PV} (hne:wires ps≠[]) (hN:(wires ps).length≤2000) (d:Nat) (tag w:List Int)
  (hr:Rd (rowV (valP 3000 d) fun a=>codeA d 2999 ([]++[a]) (codeEnd 3000 tag w)) ps due):Rd (statRest 3000 d tag w) (l::ps) due:=by
 obtain ⟨c,t,hw⟩:=ne_cons hne
 refine Rd.cons (N:=2000) (D:=[c]) c t hw (List.mem_singleton.2 rfl) hN ?_ ?_ (fun _=>hr)
 ·intro ha
  rcases hl with h | h | h
  ·rw [h]
   exact ⟨(stat91 d tag w []).trans (code_nil d 2999 _ _),fun c _ t _=>(stat91 d tag w (c::t)).trans (code_V d 2999 [] _ (c::t))⟩
  all_goals (rw [h] at ha; exact absurd ha (by decide))
 ·intro ha
  rcases hl with h | h | h
  ·rw [h] at ha; exact absurd ha (by decide)
  ·rw [h]
   exact ⟨by decide,fun c _=>(stat91 d tag w []).trans (code_nil d 2999 _ _),fun c _=>(stat91 d tag w [93]).trans (code_bad d 2999 _ _ (by decide))⟩
  ·rw [h]
   exact ⟨by decide,fun c _=>(stat91 d tag w []).trans (code_nil d 2999 _ _),fun c _=>(stat91 d tag w [32]).trans (code_bad d 2999 _ _ (by decide))⟩
theorem kind3 {p:Pk} (hp:p.Ok) (hk:p.kind=3) {d:Nat} (hd:p.Dep d) (hN:(wires p.made.1).length≤1500):Rd (lineP 3000 d) p.made.1 p.made.2.2:=by
 have hb:=p.body_two (Or.inr (by lia))
 let e:=pick z3 t_end t_endB p.c (decide (p.spot=8))
 let tx:=pick z3 t_text t_textB p.c (decide (p.spot=7))
 let tg:=pick z3 t_tag t_tagB p.a (decide (p.spot=3))
 let q:=pick z5 t_word t_wordB p.b (decide (p.spot=4) && decide (p.star=0))
 have he:e∈ends:=pick_in _ _ _ _ _ (by decide) (by decide)
 have ht:tx∈texts:=pick_in _ _ _ _ _ (by decide) (by decide)
 have hf:p.first∈t_first:=p.first_in (by lia)
 have hlr:=lr_in p.spot p.a
 obtain ⟨c,t,hw,hc,hl⟩:=end_lead he
 have hwe:wires [e]=c::t:=by rw [← hw]; exact List.append_nil _
 by_cases hcd:p.coded=0
 ·have hm1:p.made.1=(if 0<p.star then ⟨[42],-1,some [42]⟩ else tg)::sp::q.part::sp::[if tx.w=[91] then ⟨[91],1,none⟩ else tx,e]:=by
   unfold Pk.made L2.mk
   rw [if_neg (by lia),if_neg (by lia),if_neg (by lia),if_pos hcd]; rfl
  have hm2:p.made.2.2=.tuple [.str [115,116,97,116,117,115],.bytes (if 0<p.star then [] else tg.w),.bytes q.x,.none,.bytes (if tx.w=[91] then (⟨[91],1,none⟩:Part) else tx).w]:=by
   unfold Pk.made L2.mk
   rw [if_neg (by lia),if_neg (by lia),if_neg (by lia),if_pos hcd]
  rw [hm1] at hN ⊢
  rw [hm2]
  have nn:(wires [if tx.w=[91] then ⟨[91],1,none⟩ else tx,e]).length≤1500:=by
   rw [wires_cons,wires_cons,wires_cons,wires_cons] at hN
   simp only [List.length_append] at hN; lia
  exact head3 hp hd.mem (ps:=[if tx.w=[91] then ⟨[91],1,none⟩ else tx,e]) (due:=fun tag w=>.tuple [.str [115,116,97,116,117,115],.bytes tag,.bytes w,.none,.bytes (if tx.w=[91] then (⟨[91],1,none⟩:Part) else tx).w]) (by rw [wires_cons,hwe]; simp) nn (fun tag w=>text3 ht he d tag w)
 ·generalize hL:lrOf p.spot p.a=lr at hlr
  have hm1:p.made.1=(if 0<p.star then ⟨[42],-1,some [42]⟩ else tg)::sp::q.part::sp::(lr.1::p.first.part::(p.more++own9 p.spot [lr.2,tx,e])):=by
   unfold Pk.made L2.mk
   rw [if_neg (by lia),if_neg (by lia),if_neg (by lia),if_neg hcd,hL,hb.1]
   unfold own9
   show [if 0<p.star then (⟨[42],-1,some [42]⟩:Part) else tg,sp,q.part,sp]++[lr.1]++(if p.spot=9 then p.first.part::p.more++[noOwn] else p.first.part::p.more)++[lr.2,tx]++[e]=_
   generalize (if 0<p.star then (⟨[42],-1,some [42]⟩:Part) else tg)=g0
   split <;> simp
  have hm2:p.made.2.2=.tuple [.str [115,116,97,116,117,115],.bytes (if 0<p.star then [] else tg.w),.bytes q.x,.list (p.first.v::p.moreV),.bytes tx.w]:=by
   unfold Pk.made L2.mk
   rw [if_neg (by lia),if_neg (by lia),if_neg (by lia),if_neg hcd,hb.2]
  rw [hm1] at hN ⊢
  rw [hm2]
  have nn:(wires (lr.1::p.first.part::(p.more++own9 p.spot [lr.2,tx,e]))).length≤1500:=by
   rw [wires_cons,wires_cons,wires_cons,wires_cons] at hN
   simp only [List.length_append] at hN; lia
  have nn1:(wires (p.first.part::(p.more++own9 p.spot [lr.2,tx,e]))).length≤1500:=by rw [wires_cons,List.length_append] at nn; lia
  obtain ⟨c2,t2,hw2,hc2⟩:∃ c2 t2,wires (own9 p.spot [lr.2,tx,e])=c2::t2∧c2∈DV:=by
   rw [own9_w,wires_cons]
   rcases hlr.2 with h | h | h | h <;> rw [h] <;> exact ⟨_,_,rfl,by decide⟩
  have n3:(wires [tx,e]).length≤2000:=by
   rw [wires_cons,wires_app,own9_w,wires_cons] at nn1
   simp only [List.length_append] at nn1; lia
  refine head3 hp hd.mem (ps:=lr.1::p.first.part::(p.more++own9 p.spot [lr.2,tx,e])) (due:=fun tag w=>.tuple [.str [115,116,97,116,117,115],.bytes tag,.bytes w,.list (p.first.v::p.moreV),.bytes tx.w]) (by rw [wires_cons,wires_cons,wires_app,hw2]; simp) nn (fun tag w=>?_)
  refine left3 hlr.1 (by rw [wires_cons,wires_app,hw2]; simp) (by lia) d tag w ?_
  refine Rd.row hp hd (fun h=>absurd (first_neg _ hf) (by lia)) (fun _=>hf) (fun _=>rowG_of rfl) (code_S d 2998 _ _) (rowG_of rfl) (rowB_of (fun _=>rfl) fun a c t h1 h2 h3=>code_not _ _ _ _ _ _ h1 h3) c2 t2 hw2 hc2 (by lia) (fun h=>?_) (fun h=>?_)
  ·rw [h]; exact own9_rd _ (right3 hlr.2 ht he n3 d 2998 [p.first.v] tag w)
  ·rw [h]; exact own9_rd _ (right3 hlr.2 ht he n3 d 2997 [p.first.v,nest p.k p.leaf.v] tag w)
end L2
end Mine
namespace Mine
namespace L2
noncomputable def okP (q:Part):Bool:=decide (q.w.length≤60) && (q.w.all fun x=>decide (0≤x) && decide (x<256)) && (match q.o with | none=>true | some b=>decide (b.length≤60))
noncomputable def AllOk (ps:List Part):Prop:=∀ q∈ps,okP q=true
theorem AllOk.nil:AllOk []:=fun q h=>by cases h
theorem AllOk.cons {q:Part} {ps:List Part} (h:okP q=true) (hs:AllOk ps):AllOk (q::ps):=by
 intro x hx; rcases List.mem_cons.1 hx with e | e
 ·rw [e]; exact h
 ·exact hs x e
theorem AllOk.app {a b:List Part} (h:AllOk a) (hs:AllOk b):AllOk (a++b):=by
 intro x hx; rcases List.mem_append.1 hx with e | e
 ·exact h x e
 ·exact hs x e
theorem okP_leaves:((leaves++t_first++t_firstB).all fun q=>okP q.part)=true:=by decide +kernel
theorem pick_ok {gs bs:List Part} (n:Int) (b:Bool) (hg:gs≠[]) (hb:bs≠[]) (h:(gs++bs).all okP=true):okP (pick z3 gs bs n b)=true :=
 List.all_eq_true.1 h _ (pick_in z3 gs bs n b hg hb)
theorem pick_okN {gs bs:List Nam} (n:Int) (b:Bool) (hg:gs≠[]) (hb:bs≠[]) (h:((gs++bs).all fun q=>okP q.part)=true):okP (pick z5 gs bs n b).part=true :=
 List.all_eq_true.1 h _ (pick_in z5 gs bs n b hg hb)
theorem first_okP (p:Pk):okP p.first.part=true:=by
 have:=pick_in z4 t_first t_firstB p.f (decide (p.kind=2) && decide (p.spot=4)) (by decide) (by decide)
 refine List.all_eq_true.1 okP_leaves _ ?_
 rw [List.append_assoc]; exact List.mem_append_right _ this
theorem more_ok (p:Pk) (hp:p.Ok):AllOk p.more∧p.more.length≤4:=by
 unfold Pk.more
 split
 ·refine ⟨AllOk.cons (pick_ok _ _ (by decide) (by decide) (by decide)) (AllOk.cons ?_ (AllOk.cons ?_ (AllOk.cons ?_ AllOk.nil))),by simp⟩
  ·have:=hp.k
   rcases (show p.k=0∨p.k=1∨p.k=2 by lia) with e | e | e <;> rw [e] <;> rfl
  ·refine List.all_eq_true.1 okP_leaves _ ?_
   rw [List.append_assoc]; exact List.mem_append_left _ (leafOf_in _ _ _)
  ·have:=hp.k
   rcases (show p.k=0∨p.k=1∨p.k=2 by lia) with e | e | e <;> rw [e] <;> rfl
 ·exact ⟨AllOk.nil,by simp⟩
theorem body_ok (p:Pk) (hp:p.Ok):AllOk p.body∧p.body.length≤5:=by
 by_cases h:0<p.size∨1<p.kind
 ·rw [(p.body_two h).1]
  have:=more_ok p hp
  exact ⟨AllOk.cons (first_okP p) this.1,by rw [List.length_cons]; lia⟩
 ·rw [(p.body_none (by lia) (by lia)).1]; exact ⟨AllOk.nil,by simp⟩
theorem lr_ok (spot a:Int):okP (lrOf spot a).1=true∧okP (lrOf spot a).2=true:=by
 have h:=lr_in spot a
 constructor
 ·rcases h.1 with h | h | h <;> rw [h] <;> rfl
 ·rcases h.2 with h | h | h | h <;> rw [h] <;> rfl
theorem made_ok (p:Pk) (hp:p.Ok):AllOk p.made.1∧p.made.1.length≤20:=by
 have hb0:=body_ok p hp
 have hb:AllOk (if p.spot=9 then p.body++[noOwn] else p.body)∧(if p.spot=9 then p.body++[noOwn] else p.body).length≤6:=by
  split
  ·exact ⟨hb0.1.app (AllOk.cons rfl AllOk.nil),by rw [List.length_append]; show _+1≤_; lia⟩
  ·exact ⟨hb0.1,by lia⟩
 unfold Pk.made L2.mk
 generalize (if p.spot=9 then p.body++[noOwn] else p.body)=body at hb
 have ht:okP (pick z3 t_tag t_tagB p.a (decide (p.spot=3)))=true:=pick_ok _ _ (by decide) (by decide) (by decide +kernel)
 have hx:okP (pick z3 t_text t_textB p.c (decide (p.spot=7)))=true:=pick_ok _ _ (by decide) (by decide) (by decide +kernel)
 have he:okP (pick z3 t_end t_endB p.c (decide (p.spot=8)))=true:=pick_ok _ _ (by decide) (by decide) (by decide +kernel)
 have hn:okP (pick z5 t_name t_nameB p.b (decide (p.spot=4))).part=true:=pick_okN _ _ (by decide) (by decide) (by decide +kernel)
 have hw:okP (pick z5 t_word t_wordB p.b (decide (p.spot=4) && decide (p.star=0))).part=true:=pick_okN _ _ (by decide) (by decide) (by decide +kernel)
 have hq:okP (pick z3 t_plus t_plusB p.a (decide (p.spot=3)))=true:=pick_ok _ _ (by decide) (by decide) (by decide +kernel)
 have hs:okP (pick z3 t_star t_starB p.a (decide (p.spot=3)))=true:=pick_ok _ _ (by decide) (by decide) (by decide +kernel)
 generalize pick z3 t_tag t_tagB p.a (decide (p.spot=3))=tag at *
 generalize pick z3 t_text t_textB p.c (decide (p.spot=7))=text at *
 generalize pick z3 t_end t_endB p.c (decide (p.spot=8))=e at *
 generalize pick z5 t_name t_nameB p.b (decide (p.spot=4))=name at *
 generalize pick z5 t_word t_wordB p.b (decide (p.spot=4) && decide (p.star=0))=word at *
 generalize pick z3 t_plus t_plusB p.a (decide (p.spot=3))=plus at *
 generalize pick z3 t_star t_starB p.a (decide (p.spot=3))=star at *
 simp only
 split
 ·have h1:okP (if p.spot=6 then (⟨[],0,none⟩:Part) else tag)=true:=by
   split
   ·rfl
   ·exact ht
  have h2:AllOk (if p.vals≠[] then [sp]++body else body)∧(if p.vals≠[] then [sp]++body else body).length≤7:=by
   split
   ·exact ⟨AllOk.cons rfl hb.1,by rw [List.length_append]; show 1+_≤_; lia⟩
   ·exact ⟨hb.1,by lia⟩
  exact ⟨((AllOk.cons h1 (AllOk.cons rfl (AllOk.cons hn AllOk.nil))).app h2.1).app (AllOk.cons he AllOk.nil),by simp only [List.length_append,List.length_cons,List.length_nil]; lia⟩
 ·split
  ·exact ⟨AllOk.cons hq (AllOk.cons hx (AllOk.cons he AllOk.nil)),by simp⟩
  ·split
   ·exact ⟨((AllOk.cons hs AllOk.nil).app hb.1).app (AllOk.cons he AllOk.nil),by simp only [List.length_append,List.length_cons,List.length_nil]; lia⟩
   ·have h1:okP (if 0<p.star then (⟨[42],-1,some [42]⟩:Part) else tag)=true:=by
     split
     ·rfl
     ·exact ht
    split
    ·have h2:okP (if text.w=[91] then (⟨[91],1,none⟩:Part) else text)=true:=by
      split
      ·rfl
      ·exact hx
     exact ⟨((AllOk.cons h1 (AllOk.cons rfl (AllOk.cons hw (AllOk.cons rfl AllOk.nil)))).app (AllOk.cons h2 AllOk.nil)).app (AllOk.cons he AllOk.nil),by simp⟩
    ·have h2:=lr_ok p.spot p.a
     exact ⟨((((AllOk.cons h1 (AllOk.cons rfl (AllOk.cons hw (AllOk.cons rfl AllOk.nil)))).app (AllOk.cons h2.1 AllOk.nil)).app hb.1).app (AllOk.cons h2.2 (AllOk.cons hx AllOk.nil))).app (AllOk.cons he AllOk.nil),by simp only [List.length_append,List.length_cons,List.length_nil]; lia⟩
theorem wires_len:∀ {ps:List Part},AllOk ps→(wires ps).length≤60 * ps.length
 | [],_=>by simp [wires]
 | q::r,h=>by
  have h1:=h q List.mem_cons_self
  have h2:=wires_len (ps:=r) fun x hx=>h x (List.mem_cons_of_mem _ hx)
  simp only [okP,Bool.and_eq_true,decide_eq_true_eq] at h1
  rw [wires_cons,List.length_append,List.length_cons]
  have:=h1.1.1
  lia
theorem owns_len:∀ {ps:List Part},AllOk ps→∀ b,ownsOf ps=some b→b.length≤60 * ps.length
 | [],_,b,hb=>by cases hb; simp
 | q::r,h,b,hb=>by
  have h1:=h q List.mem_cons_self
  have h2:=owns_len (ps:=r) fun x hx=>h x (List.mem_cons_of_mem _ hx)
  simp only [okP,Bool.and_eq_true,decide_eq_true_eq] at h1
  rw [ownsOf] at hb
  cases ho:q.o with
  | none=>rw [ho] at hb; cases hb
  | some b1 =>
   cases hr:ownsOf r with
   | none=>rw [ho,hr] at hb; cases hb
   | some b2 =>
    rw [ho,hr] at hb
    rw [ho] at h1
    cases hb
    have h3:=h2 b2 hr
    have h4:=of_decide_eq_true h1.2
    rw [List.length_append,List.length_cons]; lia
theorem wires_by:∀ {ps:List Part},AllOk ps→∀ x∈wires ps,0≤x∧x<256
 | [],_,x,hx=>by simp [wires] at hx
 | q::r,h,x,hx=>by
  have h1:=h q List.mem_cons_self
  simp only [okP,Bool.and_eq_true,decide_eq_true_eq,List.all_eq_true] at h1
  rw [wires_cons] at hx
  rcases List.mem_append.1 hx with hx | hx
  ·exact h1.1.2 x hx
  ·exact wires_by (ps:=r) (fun x hx=>h x (List.mem_cons_of_mem _ hx)) x hx
noncomputable def rdP (p:Pk) (d:Nat):List Int→PR PV:=if p.kind=0 then cmdP 3000 d else lineP 3000 d
theorem mono_rd (p:Pk) (d:Nat):Mono 3000 (rdP p d):=by
 unfold rdP; split
 ·exact mono_cmd 3000 d
 ·exact mono_line 3000 d
theorem kinds {p:Pk} (hp:p.Ok) {d:Nat} (hd:p.Dep d):Rd (rdP p d) p.made.1 p.made.2.2:=by
 have hm:=made_ok p hp
 have hl:=wires_len hm.1
 unfold rdP
 rcases hp.kind with h | h | h | h
 ·rw [if_pos h]; exact kind0 hp h hd (by lia)
 ·rw [if_neg (by lia)]; exact kind1 h d
 ·rw [if_neg (by lia)]; exact kind2 hp h hd (by lia)
 ·rw [if_neg (by lia)]; exact kind3 hp h hd (by lia)
theorem rd_den (p:Pk) {d:Nat} (hd:p.Dep d) (e:Nat) (l:List Int) (hl:l.length<3000) (hb:∀ x∈l,0≤x∧x<256) :
  (if p.kind=0 then den T G 3000 (e+2 * d+5) 28 [.bytes l,.int p.depth] else den T G 3000 (e+2 * d+5) 26 [.bytes l,.int p.depth])=ofPR l (rdP p d l):=by
 have hlim:l.length<lim:=Nat.lt_of_lt_of_le hl (by decide)
 unfold rdP
 rw [hd.eq]
 split
 ·exact d_read_command lib l hlim hb d e
 ·exact d_read_line lib l hlim hb d e
theorem rd_nil (p:Pk) (d:Nat):rdP p d []=.none:=by
 unfold rdP
 split
 ·rw [cmd0_eq]; rfl
 ·exact line_nil d
theorem read_ok {p:Pk} (hp:p.Ok) {d:Nat} (hd:p.Dep d) (e:Nat) :
  ReadOk (fun l=>if p.kind=0 then den T G 3000 (e+2 * d+5) 28 [.bytes l,.int p.depth] else den T G 3000 (e+2 * d+5) 26 [.bytes l,.int p.depth]) (wires p.made.1) (edgeOf p.made.1 0) p.made.2.2:=by
 have hm:=made_ok p hp
 have hl:=wires_len hm.1
 have hb:=wires_by hm.1
 have hg:=(kinds hp hd).good
 have hd':=(kinds hp hd).bad
 have mo:=mono_rd p d
 generalize wires p.made.1=data at *
 generalize edgeOf p.made.1 0=ed at *
 have hlen:data.length≤1200:=by lia
 have hext:∀ x∈data++[32,40,13,10],0≤x∧x<256:=by
  intro x hx
  rcases List.mem_append.1 hx with hx | hx
  ·exact hb x hx
  ·exact (show ∀ x∈([32,40,13,10]:List Int),0≤x∧x<256 by decide) x hx
 have htk:∀ n,∀ x∈data.take n,0≤x∧x<256:=fun n x hx=>hb x (List.mem_of_mem_take hx)
 have hlt:∀ n,(data.take n).length<3000:=fun n=>by rw [List.length_take]; lia
 have hxl:(data++[32,40,13,10]).length<3000:=by rw [List.length_append]; show _+4<_; lia
 refine ⟨by lia,fun he=>?_,fun he=>?_⟩
 ·have g:=hg he
  refine ⟨?_,fun n hn=>?_,?_,?_⟩
  ·intro h0; rw [h0,rd_nil] at g; cases g
  ·refine (rd_den p hd e _ (hlt n) (htk n)).trans ?_
   rw [reads_good mo g (by lia) hn]; rfl
  ·refine (rd_den p hd e data (by lia) hb).trans ?_
   rw [g]
   show Res.ok (PV.tuple [_,.int ((data.length:Int) - ((0:Nat):Int))])=_
   rw [show (data.length:Int) - ((0:Nat):Int)=data.length by lia]
  ·refine (rd_den p hd e _ hxl hext).trans ?_
   rw [reads_more mo g _ hxl]
   show Res.ok (PV.tuple [_,.int (((data++[32,40,13,10]).length:Int) - ((4:Nat):Int))])=_
   have ex:(data++[32,40,13,10]).length=data.length+4:=by rw [List.length_append]; rfl
   rw [ex]
   exact congrArg (fun i=>Res.ok (PV.tuple [p.made.2.2,.int i])) (by lia)
 ·obtain ⟨h1,h2,h3⟩:=hd' he
  refine ⟨by lia,fun n hn=>?_,?_,?_⟩
  ·refine (rd_den p hd e _ (hlt n) (htk n)).trans ?_
   have:=reads_none mo h2 (hlt _) n
   rw [List.take_take,Nat.min_eq_left (by lia)] at this
   rw [this]; rfl
  ·refine (rd_den p hd e _ (hlt _) (htk _)).trans ?_
   rw [show (ed+1).toNat=ed.toNat+1 by lia,h3]; rfl
  ·refine (rd_den p hd e _ hxl hext).trans ?_
   have e2:data++[32,40,13,10]=data.take (ed.toNat+1)++(data.drop (ed.toNat+1)++[32,40,13,10]):=by
    rw [← List.append_assoc,List.take_append_drop]
   have:=reads_err mo h3 (data.drop (ed.toNat+1)++[32,40,13,10]) (by rw [← e2]; exact hxl)
   rw [← e2] at this
   rw [this]; rfl
end L2
end Mine
namespace Mine
namespace L2
noncomputable def ofW:Option (List Int)→Res PV
 | some b=>.ok (.bytes b)
 | none=>.exc
noncomputable def isW (r:Res PV) (o:Option (List Int)):Bool:=match r,o with
 | .ok (.bytes a),some b=>a == b && decide (b.length≤100)
 | .exc,none=>true
 | _,_=>false
theorem isW_so {r:Res PV} {o:Option (List Int)} (h:isW r o=true):r=ofW o∧∀ b,o=some b→b.length≤100:=by
 unfold isW at h
 split at h
 ·rename_i a b
  simp only [Bool.and_eq_true,beq_iff_eq,decide_eq_true_eq] at h
  rw [h.1]; exact ⟨rfl,fun c hc=>by cases hc; exact h.2⟩
 ·exact ⟨rfl,fun c hc=>by cases hc⟩
 ·cases h
noncomputable def isT (r:Res PV) (b:Bool):Bool:=match r with
 | .ok (.bool c)=>b == c
 | _=>false
theorem isT_so {r:Res PV} {b:Bool} (h:isT r b=true):r=.ok (.bool b):=by
 unfold isT at h
 split at h
 ·rw [eq_of_beq h]
 ·cases h
noncomputable def allS:List (Option (List Int))→Option (List (List Int))
 | []=>some []
 | none::_=>none
 | some a::r=>match allS r with
  | some t=>some (a::t)
  | none=>none
noncomputable def oapp:Option (List Int)→Option (List Int)→Option (List Int)
 | some a,some b=>some (a++b)
 | _,_=>none
theorem owns_cons (q:Part) (r:List Part):ownsOf (q::r)=oapp q.o (ownsOf r):=by
 rw [ownsOf]; cases q.o <;> cases ownsOf r <;> rfl
theorem oapp_none (a:Option (List Int)):oapp a none=none:=by cases a <;> rfl
theorem none_oapp (a:Option (List Int)):oapp none a=none:=rfl
theorem oapp_some (a b:List Int):oapp (some a) (some b)=some (a++b):=rfl
theorem oapp_assoc (a b c:Option (List Int)):oapp (oapp a b) c=oapp a (oapp b c):=by
 cases a <;> cases b <;> cases c <;> simp [oapp]
theorem owns_nil:ownsOf []=some []:=rfl
theorem oapp_nil (a:Option (List Int)):oapp a (some [])=a:=by cases a <;> simp [oapp]
theorem owns_app:∀ a b:List Part,ownsOf (a++b)=oapp (ownsOf a) (ownsOf b)
 | [],b=>by rw [List.nil_append,owns_nil]; cases ownsOf b <;> rfl
 | q::r,b=>by rw [List.cons_append,owns_cons,owns_cons,owns_app r b,oapp_assoc]
theorem w_leaves:(leaves.all fun l=>([0,1,2]:List Nat).all fun k=>isW (den T G 3000 17 16 [nest k l.v]) (ownsOf (val3 0 k l)))=true:=by decide +kernel
theorem w_first:(t_first.all fun l=>isW (den T G 3000 17 16 [l.v]) l.o)=true:=by decide +kernel
theorem w_tag:((⟨[],0,none⟩::(t_tag++t_tagB):List Part).all fun q=>isT (den T G 3000 17 9 [.bytes q.w]) q.o.isSome && (match q.o with | some b=>beqL b q.w | none=>true))=true:=by decide +kernel
theorem w_name:((t_name++t_nameB).all fun q=>isT (den T G 3000 17 10 [.bytes q.w]) q.o.isSome && (match q.o with | some b=>beqL b q.w | none=>true))=true:=by decide +kernel
theorem w_text:((⟨[91],1,none⟩::texts:List Part).all fun q=>isW (den T G 3000 17 22 [.bytes q.w]) q.o)=true:=by decide +kernel
theorem owns_val3 (d d':Int) (k:Nat) (l:Leaf):ownsOf [⟨opens k,deepAt d k l,some (opens k)⟩,l.part,⟨closes k,-1,some (closes k)⟩]=ownsOf [⟨opens k,deepAt d' k l,some (opens k)⟩,l.part,⟨closes k,-1,some (closes k)⟩]:=by
 simp only [owns_cons]
inductive Ws:List PV→List (Option (List Int))→Prop
 | nil:Ws [] []
 | cons {v:PV} {o:Option (List Int)} {vs:List PV} {os:List (Option (List Int))} (h:den T G 3000 17 16 [v]=ofW o) (hl:∀ b,o=some b→b.length≤100) (r:Ws vs os):Ws (v::vs) (o::os)
theorem Ws.len {vs:List PV} {os:List (Option (List Int))} (h:Ws vs os):vs.length=os.length:=by
 induction h with
 | nil=>rfl
 | cons _ _ _ ih=>rw [List.length_cons,List.length_cons,ih]
theorem allS_len:∀ {os:List (Option (List Int))} {bs:List (List Int)},allS os=some bs→os.length=bs.length
 | [],bs,h=>by cases h; rfl
 | none::_,bs,h=>by cases h
 | some a::r,bs,h=>by
  rw [allS] at h
  cases hr:allS r with
  | none=>rw [hr] at h; cases h
  | some t=>rw [hr] at h; cases h; rw [List.length_cons,List.length_cons,allS_len hr]
theorem Ws.small {vs:List PV} {os:List (Option (List Int))} (h:Ws vs os):∀ bs,allS os=some bs→∀ b∈bs,b.length≤100:=by
 induction h with
 | nil=>intro bs hb; cases hb; intro b h; cases h
 | @cons v o vs os h hl r ih =>
  intro bs hb
  cases o with
  | none=>cases hb
  | some a =>
   rw [allS] at hb
   cases hr:allS os with
   | none=>rw [hr] at hb; cases hb
   | some t =>
    rw [hr] at hb; cases hb
    intro b hb
    rcases List.mem_cons.1 hb with e | e
    ·rw [e]; exact hl a rfl
    ·exact ih t hr b e
theorem ws_map {vs:List PV} {os:List (Option (List Int))} (h:Ws vs os):mapR (fun v=>evE (den T G 3000 17) G (.call 16 [(.var 0)]) [.val v]) vs=match allS os with | some bs=>.ok (bs.map PV.bytes) | none=>.exc:=by
 induction h with
 | nil=>rfl
 | @cons v o vs os h hl r ih =>
  rw [mapR,xcall,xE1,xvar,xE]
  simp only [xg0,xg1,b_ok,h]
  cases o with
  | none=>rfl
  | some a =>
   simp only [ofW,b_ok,ih,allS]
   cases allS os <;> rfl
theorem ws_for {vs:List PV} {os:List (Option (List Int))} (h:Ws vs os) (mk:List PV→Slot→List Slot) {set:List Slot→PV→Res (List Slot)} {b:List Slot→Res (Fl × List Slot)}
  (hs:∀ a s v,set (mk a s) v=.ok (mk a (.val v))) (hb:∀ a v,a.length<lim→b (mk a (.val v))=(den T G 3000 17 16 [v]).bind fun x=>.ok (.next,mk (a++[x]) (.val v))) :
  ∀ a s,a.length+vs.length≤lim→∃ s',forN set b vs (mk a s)=match allS os with | some bs=>.ok (.next,mk (a++bs.map PV.bytes) s') | none=>.exc:=by
 induction h with
 | nil=>intro a s _; exact ⟨s,by rw [f_nil]; simp [allS]⟩
 | @cons v o vs os h hl r ih =>
  intro a s hlen
  rw [List.length_cons] at hlen
  rw [f_cons,hs,b_ok,hb a v (by lia),h]
  cases o with
  | none=>exact ⟨s,rfl⟩
  | some c =>
   obtain ⟨s',e⟩:=ih (a++[.bytes c]) (.val v) (by rw [List.length_append]; show _+1+_≤_; lia)
   refine ⟨s',?_⟩
   simp only [ofW,b_ok,e,allS]
   cases allS os with
   | none=>rfl
   | some t=>simp
theorem chunks_map:∀ bs:List (List Int),chunksOf (bs.map PV.bytes)=some bs
 | []=>rfl
 | b::r=>by rw [List.map_cons,chunksOf,chunks_map r]; rfl
theorem glue_le:∀ cs:List (List Int),(∀ c∈cs,c.length≤100)→(glue [32] cs).length≤101 * cs.length
 | [],_=>by simp [glue]
 | [a],h=>by have:=h a (by simp); simp only [glue,List.length_cons,List.length_nil]; lia
 | a::b::r,h=>by
  have h1:=h a (by simp)
  have h2:=glue_le (b::r) fun c hc=>h c (List.mem_cons_of_mem _ hc)
  rw [glue]
  simp only [List.length_append,List.length_cons,List.length_nil] at h2 ⊢
  lia
theorem j_b {bs:List (List Int)} (h:∀ c∈bs,c.length≤100) (hl:bs.length≤10):joinP (.bytes [32]) (.list (bs.map PV.bytes))=.ok (.bytes (glue [32] bs)):=by
 have:=glue_le bs h
 show (match chunksOf (bs.map PV.bytes) with | some cs=>if (bs.map PV.bytes).length≤lim∧(glue [32] cs).length≤lim then Res.ok (PV.bytes (glue [32] cs)) else .stuck | none=>.stuck)=_
 rw [chunks_map]
 exact if_pos ⟨by rw [List.length_map]; unfold lim; lia,by unfold lim; lia⟩
theorem o_addb2 (a b:List Int) (h:a.length+b.length≤5000):binP .add (.bytes a) (.bytes b)=.ok (.bytes (a++b)):=o_addb' (by unfold lim; lia)
theorem wc_len (l:List PV) (h:l.length≠3):den T G 3000 18 27 [.tuple l]=.exc:=by
 rw [den_code (T:=T) (f:=27) (vs:=vf_write_command) (k:=1) (body:=cf_write_command) rfl rfl]
 show outS (evSs _ _ _ cf_write_command [.val (.tuple l),.unset,.unset,.unset,.unset,.unset])=_
 rw [cf_write_command,run_exc (need_n lib ?_)]
 ·rfl
 ·have:((l.length:Int) == 3)=false:=by rw [beq_eq_false_iff_ne]; lia
  simp only [xnil,xSs,xfrz,xset,xown,xsetT,xaug,xapp,xexpr,xret,xif,xwhile,xfor,xforT,xraise,xtry,xbrk,xB,xlit,xneg,xvar,xglob,xsf,xtup,xlst,xdict,xbin,xcmp,xcmp2,xand,xor,xnot,xite,xidx,xslc,xcall,xlen,xisin,xisin1,xmkB,xtyp,xjoin,xcomp,xE,xE1,xO,xO1,xA1,xA2,xR1,xR2,xg0,xg1,xp0,xp1,b_ok,b_exc,b_stuck,c_eqi,c_nei,c_lti,c_lei,c_gti,c_gei,c_eqb,c_neb,c_eqs,c_nes,c_is,c_isNot,c_in,c_notIn,c_notInB,t_none,t_bool,t_int,o_addi,o_subi,o_modi,u_addi,l_b,l_t,l_l,i_t0,i_t1,e_none,s_b,r_ret,r_next,r_exc,r_stuck,it_b,it_t,it_l,f_nil,if_true,if_false,Bool.false_eq_true,Bool.true_eq_false,Bool.not_true,Bool.not_false,reduceIte,isNone,len_c,len_n,lim,Nat.reduceAdd,Nat.reduceLeDiff,ge_iff_le,isBool,List.any,isP,Bool.true_or,Bool.or_true,this]
theorem wc (t n:List Int) (ht:t.length≤100) (hn:n.length≤100) (bt bn:Bool) (h9:den T G 3000 17 9 [.bytes t]=.ok (.bool bt)) (h10:den T G 3000 17 10 [.bytes n]=.ok (.bool bn))
  {vs:List PV} {os:List (Option (List Int))} (hw:Ws vs os) (hlen:vs.length≤5) :
  den T G 3000 18 27 [.tuple [.bytes t,.bytes n,.list vs]]=ofW (if (bt && bn)=true then (allS os).map (fun bs=>glue [32] (t::n::bs)++[13,10]) else none):=by
 rw [den_code (T:=T) (f:=27) (vs:=vf_write_command) (k:=1) (body:=cf_write_command) rfl rfl]
 show outS (evSs _ _ _ cf_write_command [.val (.tuple [.bytes t,.bytes n,.list vs]),.unset,.unset,.unset,.unset,.unset])=_
 rw [cf_write_command,run_next (need_y lib (by rfl)),run_next (to_assign (v:=.bytes t) rfl)]
 simp only [xp0,xp1]
 rw [run_next (to_assign (v:=.bytes n) rfl)]
 simp only [xp0,xp1]
 rw [run_next (to_assign (v:=.list vs) rfl)]
 simp only [xp0,xp1]
 cases hb:bt && bn with
 | false =>
  rw [run_exc (need_n lib ?_)]
  ·rfl
  ·cases bt with
   | false=>simp only [xnil,xSs,xfrz,xset,xown,xsetT,xaug,xapp,xexpr,xret,xif,xwhile,xfor,xforT,xraise,xtry,xbrk,xB,xlit,xneg,xvar,xglob,xsf,xtup,xlst,xdict,xbin,xcmp,xcmp2,xand,xor,xnot,xite,xidx,xslc,xcall,xlen,xisin,xisin1,xmkB,xtyp,xjoin,xcomp,xE,xE1,xO,xO1,xA1,xA2,xR1,xR2,xg0,xg1,xp0,xp1,b_ok,b_exc,b_stuck,c_eqi,c_nei,c_lti,c_lei,c_gti,c_gei,c_eqb,c_neb,c_eqs,c_nes,c_is,c_isNot,c_in,c_notIn,c_notInB,t_none,t_bool,t_int,o_addi,o_subi,o_modi,u_addi,l_b,l_t,l_l,i_t0,i_t1,e_none,s_b,r_ret,r_next,r_exc,r_stuck,it_b,it_t,it_l,f_nil,if_true,if_false,Bool.false_eq_true,Bool.true_eq_false,Bool.not_true,Bool.not_false,reduceIte,isNone,len_c,len_n,lim,Nat.reduceAdd,Nat.reduceLeDiff,ge_iff_le,h9]
   | true =>
    have:bn=false:=by simpa using hb
    simp only [xnil,xSs,xfrz,xset,xown,xsetT,xaug,xapp,xexpr,xret,xif,xwhile,xfor,xforT,xraise,xtry,xbrk,xB,xlit,xneg,xvar,xglob,xsf,xtup,xlst,xdict,xbin,xcmp,xcmp2,xand,xor,xnot,xite,xidx,xslc,xcall,xlen,xisin,xisin1,xmkB,xtyp,xjoin,xcomp,xE,xE1,xO,xO1,xA1,xA2,xR1,xR2,xg0,xg1,xp0,xp1,b_ok,b_exc,b_stuck,c_eqi,c_nei,c_lti,c_lei,c_gti,c_gei,c_eqb,c_neb,c_eqs,c_nes,c_is,c_isNot,c_in,c_notIn,c_notInB,t_none,t_bool,t_int,o_addi,o_subi,o_modi,u_addi,l_b,l_t,l_l,i_t0,i_t1,e_none,s_b,r_ret,r_next,r_exc,r_stuck,it_b,it_t,it_l,f_nil,if_true,if_false,Bool.false_eq_true,Bool.true_eq_false,Bool.not_true,Bool.not_false,reduceIte,isNone,len_c,len_n,lim,Nat.reduceAdd,Nat.reduceLeDiff,ge_iff_le,h9,h10,this]
 | true =>
  rw [Bool.and_eq_true] at hb
  rw [run_next (need_y lib (by (first | rfl | exact h9 | exact h10 | simp only [xnil,xSs,xfrz,xset,xown,xsetT,xaug,xapp,xexpr,xret,xif,xwhile,xfor,xforT,xraise,xtry,xbrk,xB,xlit,xneg,xvar,xglob,xsf,xtup,xlst,xdict,xbin,xcmp,xcmp2,xand,xor,xnot,xite,xidx,xslc,xcall,xlen,xisin,xisin1,xmkB,xtyp,xjoin,xcomp,xE,xE1,xO,xO1,xA1,xA2,xR1,xR2,xg0,xg1,xp0,xp1,b_ok,b_exc,b_stuck,c_eqi,c_nei,c_lti,c_lei,c_gti,c_gei,c_eqb,c_neb,c_eqs,c_nes,c_is,c_isNot,c_in,c_notIn,c_notInB,t_none,t_bool,t_int,o_addi,o_subi,o_modi,u_addi,l_b,l_t,l_l,i_t0,i_t1,e_none,s_b,r_ret,r_next,r_exc,r_stuck,it_b,it_t,it_l,f_nil,if_true,if_false,Bool.false_eq_true,Bool.true_eq_false,Bool.not_true,Bool.not_false,reduceIte,isNone,len_c,len_n,lim,Nat.reduceAdd,Nat.reduceLeDiff,ge_iff_le,h9,h10,hb.1,hb.2]))),run_next (need_y lib (by rfl)),run_next (ρ':=[.val (.tuple [.bytes t,.bytes n,.list vs]),.val (.bytes t),.val (.bytes n),.val (.list vs),.own [.bytes t,.bytes n],.unset]) rfl]
  obtain ⟨s',hf⟩:=ws_for hw (fun a s=>[.val (.tuple [.bytes t,.bytes n,.list vs]),.val (.bytes t),.val (.bytes n),.val (.list vs),.own a,s]) (set:=fun ρ v=>.ok (putS ρ 5 (.val v)))
   (b:=fun ρ=>evSs (den T G 3000 17) G 3000 [.app 4 (.call 16 [(.var 5)])] ρ) (fun a s v=>rfl) (fun a v ha=>by
    show evSs _ _ _ _ _=_
    simp only [xnil,xSs,xfrz,xset,xown,xsetT,xaug,xapp,xexpr,xret,xif,xwhile,xfor,xforT,xraise,xtry,xbrk,xlit,xneg,xvar,xglob,xsf,xtup,xlst,xdict,xbin,xcmp,xcmp2,xand,xor,xnot,xite,xidx,xslc,xcall,xlen,xisin,xisin1,xmkB,xtyp,xjoin,xcomp,xE,xE1,xg0,xg1,b_ok]
    cases den T G 3000 17 16 [v] with
    | exc=>rfl
    | stuck=>rfl
    | ok x=>simp only [b_ok,ha,if_true,xp0,xp1,xnil,xSs]) [.bytes t,.bytes n] .unset (by show 2+_≤_; unfold lim; lia)
  cases ha:allS os with
  | none =>
   rw [ha] at hf
   rw [run_exc (by exact hf)]
   rfl
  | some bs =>
   rw [ha] at hf
   rw [run_next (by exact hf)]
   have e:([.bytes t,.bytes n]++bs.map PV.bytes:List PV)=(t::n::bs).map PV.bytes:=rfl
   rw [run_next (ρ':=[.val (.tuple [.bytes t,.bytes n,.list vs]),.val (.bytes t),.val (.bytes n),.val (.list vs),.val (.list ((t::n::bs).map PV.bytes)),s']) rfl]
   have hsm:∀ c∈t::n::bs,c.length≤100:=by
    intro c hc
    rcases List.mem_cons.1 hc with e | hc
    ·rw [e]; exact ht
    ·rcases List.mem_cons.1 hc with e | hc
     ·rw [e]; exact hn
     ·exact hw.small bs ha c hc
   have hl5:(t::n::bs).length≤10:=by
    have h1:=hw.len
    have h2:=allS_len ha
    simp only [List.length_cons]; lia
   have hg:=glue_le _ hsm
   rw [run_ret (to_ret (v:=.bytes (glue [32] (t::n::bs)++[13,10])) (by
    simp only [xlit,xneg,xvar,xglob,xsf,xtup,xlst,xdict,xbin,xcmp,xcmp2,xand,xor,xnot,xite,xidx,xslc,xcall,xlen,xisin,xisin1,xmkB,xtyp,xjoin,xcomp,xg0,xg1,b_ok]
    rw [j_b hsm hl5,b_ok,o_addb2 _ _ (by show _+2≤_; lia)]))]
   rfl
theorem wc_dict (t n:List Int) (bt bn:Bool) (h9:den T G 3000 17 9 [.bytes t]=.ok (.bool bt)) (h10:den T G 3000 17 10 [.bytes n]=.ok (.bool bn)) :
  den T G 3000 18 27 [.tuple [.bytes t,.bytes n,.dict0]]=.exc:=by
 rw [den_code (T:=T) (f:=27) (vs:=vf_write_command) (k:=1) (body:=cf_write_command) rfl rfl]
 show outS (evSs _ _ _ cf_write_command [.val (.tuple [.bytes t,.bytes n,.dict0]),.unset,.unset,.unset,.unset,.unset])=_
 rw [cf_write_command,run_next (need_y lib (by rfl)),run_next (to_assign (v:=.bytes t) rfl)]
 simp only [xp0,xp1]
 rw [run_next (to_assign (v:=.bytes n) rfl)]
 simp only [xp0,xp1]
 rw [run_next (to_assign (v:=.dict0) rfl)]
 simp only [xp0,xp1]
 cases hb:bt && bn with
 | false =>
  rw [run_exc (need_n lib ?_)]
  ·rfl
  ·cases bt with
   | false=>simp only [xnil,xSs,xfrz,xset,xown,xsetT,xaug,xapp,xexpr,xret,xif,xwhile,xfor,xforT,xraise,xtry,xbrk,xB,xlit,xneg,xvar,xglob,xsf,xtup,xlst,xdict,xbin,xcmp,xcmp2,xand,xor,xnot,xite,xidx,xslc,xcall,xlen,xisin,xisin1,xmkB,xtyp,xjoin,xcomp,xE,xE1,xO,xO1,xA1,xA2,xR1,xR2,xg0,xg1,xp0,xp1,b_ok,b_exc,b_stuck,c_eqi,c_nei,c_lti,c_lei,c_gti,c_gei,c_eqb,c_neb,c_eqs,c_nes,c_is,c_isNot,c_in,c_notIn,c_notInB,t_none,t_bool,t_int,o_addi,o_subi,o_modi,u_addi,l_b,l_t,l_l,i_t0,i_t1,e_none,s_b,r_ret,r_next,r_exc,r_stuck,it_b,it_t,it_l,f_nil,if_true,if_false,Bool.false_eq_true,Bool.true_eq_false,Bool.not_true,Bool.not_false,reduceIte,isNone,len_c,len_n,lim,Nat.reduceAdd,Nat.reduceLeDiff,ge_iff_le,h9]
   | true =>
    have:bn=false:=by simpa using hb
    simp only [xnil,xSs,xfrz,xset,xown,xsetT,xaug,xapp,xexpr,xret,xif,xwhile,xfor,xforT,xraise,xtry,xbrk,xB,xlit,xneg,xvar,xglob,xsf,xtup,xlst,xdict,xbin,xcmp,xcmp2,xand,xor,xnot,xite,xidx,xslc,xcall,xlen,xisin,xisin1,xmkB,xtyp,xjoin,xcomp,xE,xE1,xO,xO1,xA1,xA2,xR1,xR2,xg0,xg1,xp0,xp1,b_ok,b_exc,b_stuck,c_eqi,c_nei,c_lti,c_lei,c_gti,c_gei,c_eqb,c_neb,c_eqs,c_nes,c_is,c_isNot,c_in,c_notIn,c_notInB,t_none,t_bool,t_int,o_addi,o_subi,o_modi,u_addi,l_b,l_t,l_l,i_t0,i_t1,e_none,s_b,r_ret,r_next,r_exc,r_stuck,it_b,it_t,it_l,f_nil,if_true,if_false,Bool.false_eq_true,Bool.true_eq_false,Bool.not_true,Bool.not_false,reduceIte,isNone,len_c,len_n,lim,Nat.reduceAdd,Nat.reduceLeDiff,ge_iff_le,h9,h10,this]
 | true =>
  rw [Bool.and_eq_true] at hb
  rw [run_next (need_y lib (by (first | rfl | exact h9 | exact h10 | simp only [xnil,xSs,xfrz,xset,xown,xsetT,xaug,xapp,xexpr,xret,xif,xwhile,xfor,xforT,xraise,xtry,xbrk,xB,xlit,xneg,xvar,xglob,xsf,xtup,xlst,xdict,xbin,xcmp,xcmp2,xand,xor,xnot,xite,xidx,xslc,xcall,xlen,xisin,xisin1,xmkB,xtyp,xjoin,xcomp,xE,xE1,xO,xO1,xA1,xA2,xR1,xR2,xg0,xg1,xp0,xp1,b_ok,b_exc,b_stuck,c_eqi,c_nei,c_lti,c_lei,c_gti,c_gei,c_eqb,c_neb,c_eqs,c_nes,c_is,c_isNot,c_in,c_notIn,c_notInB,t_none,t_bool,t_int,o_addi,o_subi,o_modi,u_addi,l_b,l_t,l_l,i_t0,i_t1,e_none,s_b,r_ret,r_next,r_exc,r_stuck,it_b,it_t,it_l,f_nil,if_true,if_false,Bool.false_eq_true,Bool.true_eq_false,Bool.not_true,Bool.not_false,reduceIte,isNone,len_c,len_n,lim,Nat.reduceAdd,Nat.reduceLeDiff,ge_iff_le,h9,h10,hb.1,hb.2]))),run_exc (need_n lib (by rfl))]
  rfl
end L2
end Mine
namespace Mine
namespace L2
noncomputable def sCont:PV:=.str [99,111,110,116,105,110,117,101]
noncomputable def sData:PV:=.str [100,97,116,97]
noncomputable def sStat:PV:=.str [115,116,97,116,117,115]
theorem wl_cont_len (a b:PV):den T G 3000 18 23 [.tuple [sCont,a,b]]=.exc:=by
 rw [den_code (T:=T) (f:=23) (vs:=vf_write_line) (k:=1) (body:=cf_write_line) rfl rfl]
 show outS (evSs _ _ _ cf_write_line [.val (.tuple [sCont,a,b]),.unset,.unset,.unset,.unset,.unset,.unset,.unset,.unset,.unset,.unset])=_
 rw [cf_write_line,run_next (need_y lib (by rfl)),run_next (to_assign (v:=sCont) rfl)]
 simp only [xp0,xp1]
 rw [run_exc ((if_yes (b_of rfl)).trans (run_exc (need_n lib (by rfl))))]
 rfl
theorem wl_cont (x:List Int) (o:Option (List Int)) (h:den T G 3000 17 22 [.bytes x]=ofW o) (hl:∀ b,o=some b→b.length≤100) :
  den T G 3000 18 23 [.tuple [sCont,.bytes x]]=ofW (oapp (some [43,32]) (oapp o (some [13,10]))):=by
 rw [den_code (T:=T) (f:=23) (vs:=vf_write_line) (k:=1) (body:=cf_write_line) rfl rfl]
 show outS (evSs _ _ _ cf_write_line [.val (.tuple [sCont,.bytes x]),.unset,.unset,.unset,.unset,.unset,.unset,.unset,.unset,.unset,.unset])=_
 rw [cf_write_line,run_next (need_y lib (by rfl)),run_next (to_assign (v:=sCont) rfl)]
 simp only [xp0,xp1]
 cases o with
 | none =>
  rw [run_exc ((if_yes (b_of rfl)).trans ((run_next (need_y lib (by rfl))).trans (run_exc (by
   (first | rfl | exact h | simp only [xnil,xSs,xfrz,xset,xown,xsetT,xaug,xapp,xexpr,xret,xif,xwhile,xfor,xforT,xraise,xtry,xbrk,xB,xlit,xneg,xvar,xglob,xsf,xtup,xlst,xdict,xbin,xcmp,xcmp2,xand,xor,xnot,xite,xidx,xslc,xcall,xlen,xisin,xisin1,xmkB,xtyp,xjoin,xcomp,xE,xE1,xO,xO1,xA1,xA2,xR1,xR2,xg0,xg1,xp0,xp1,b_ok,b_exc,b_stuck,c_eqi,c_nei,c_lti,c_lei,c_gti,c_gei,c_eqb,c_neb,c_eqs,c_nes,c_is,c_isNot,c_in,c_notIn,c_notInB,t_none,t_bool,t_int,o_addi,o_subi,o_modi,u_addi,l_b,l_t,l_l,i_t0,i_t1,e_none,s_b,r_ret,r_next,r_exc,r_stuck,it_b,it_t,it_l,f_nil,if_true,if_false,Bool.false_eq_true,Bool.true_eq_false,Bool.not_true,Bool.not_false,reduceIte,isNone,len_c,len_n,lim,Nat.reduceAdd,Nat.reduceLeDiff,ge_iff_le,h,ofW])))))]
  rfl
 | some b =>
  have:=hl b rfl
  rw [run_ret ((if_yes (b_of rfl)).trans ((run_next (need_y lib (by rfl))).trans (run_ret (to_ret (v:=.bytes ([43,32]++(b++[13,10]))) (by
   simp only [xnil,xSs,xfrz,xset,xown,xsetT,xaug,xapp,xexpr,xret,xif,xwhile,xfor,xforT,xraise,xtry,xbrk,xB,xlit,xneg,xvar,xglob,xsf,xtup,xlst,xdict,xbin,xcmp,xcmp2,xand,xor,xnot,xite,xidx,xslc,xcall,xlen,xisin,xisin1,xmkB,xtyp,xjoin,xcomp,xE,xE1,xO,xO1,xA1,xA2,xR1,xR2,xg0,xg1,xp0,xp1,b_ok,b_exc,b_stuck,c_eqi,c_nei,c_lti,c_lei,c_gti,c_gei,c_eqb,c_neb,c_eqs,c_nes,c_is,c_isNot,c_in,c_notIn,c_notInB,t_none,t_bool,t_int,o_addi,o_subi,o_modi,u_addi,l_b,l_t,l_l,i_t0,i_t1,e_none,s_b,r_ret,r_next,r_exc,r_stuck,it_b,it_t,it_l,f_nil,if_true,if_false,Bool.false_eq_true,Bool.true_eq_false,Bool.not_true,Bool.not_false,reduceIte,isNone,len_c,len_n,lim,Nat.reduceAdd,Nat.reduceLeDiff,ge_iff_le,h,ofW]
   rw [o_addb2 _ _ (by simp only [List.length_cons,List.length_nil]; lia),b_ok,o_addb2 _ _ (by simp only [List.length_cons,List.length_nil,List.length_append]; lia),List.append_assoc])))))]
  rfl
theorem wl_data_len (a b:PV):den T G 3000 18 23 [.tuple [sData,a,b]]=.exc:=by
 rw [den_code (T:=T) (f:=23) (vs:=vf_write_line) (k:=1) (body:=cf_write_line) rfl rfl]
 show outS (evSs _ _ _ cf_write_line [.val (.tuple [sData,a,b]),.unset,.unset,.unset,.unset,.unset,.unset,.unset,.unset,.unset,.unset])=_
 rw [cf_write_line,run_next (need_y lib (by rfl)),run_next (to_assign (v:=sData) rfl)]
 simp only [xp0,xp1]
 rw [run_next ((if_no (b_of rfl)).trans run_nil),run_exc ((if_yes (b_of rfl)).trans (run_exc (need_n lib (by rfl))))]
 rfl
theorem wl_data_dict:den T G 3000 18 23 [.tuple [sData,.dict0]]=.exc:=by
 rw [den_code (T:=T) (f:=23) (vs:=vf_write_line) (k:=1) (body:=cf_write_line) rfl rfl]
 show outS (evSs _ _ _ cf_write_line [.val (.tuple [sData,.dict0]),.unset,.unset,.unset,.unset,.unset,.unset,.unset,.unset,.unset,.unset])=_
 rw [cf_write_line,run_next (need_y lib (by rfl)),run_next (to_assign (v:=sData) rfl)]
 simp only [xp0,xp1]
 rw [run_next ((if_no (b_of rfl)).trans run_nil),run_exc ((if_yes (b_of rfl)).trans ((run_next (need_y lib (by rfl))).trans ((run_next (to_assign (v:=.dict0) rfl)).trans (run_exc (need_n lib (by rfl))))))]
 rfl
noncomputable def freeC:CS:=.if_ (.and_ [(.isin (.var 9) [.tuple,.list]),(.cmp .ge (.len (.var 9)) (.lit (.int 2)))]) [.if_ (.and_ [(.cmp .eq (.idx (.var 9) (.lit (.int 0))) (.lit (.str [97,116,111,109]))),(.isin1 (.idx (.var 9) (.lit (.int 1))) .bytes)]) [.expr (.call 0 [(.cmp .notIn (.call 8 [(.idx (.var 9) (.lit (.int 1)))]) (.glob 1))])] []] []
theorem up_den (w:List Int) (h:(w.all fun x=>decide (0≤x) && decide (x<256))=true):den T G 3000 17 8 [.bytes w]=.ok (.bytes (up w)):=by
 refine d_upper lib 16 w ?_
 simpa [List.all_eq_true] using h
theorem free_atom (a b c d e f g h i j:Slot) (w:List Int) (hw:(w.all fun x=>decide (0≤x) && decide (x<256))=true) (t:Bool) (ht:cmpP .notIn (.bytes (up w)) (.tuple [.bytes [79,75],.bytes [78,79],.bytes [66,65,68],.bytes [66,89,69]])=.ok t) :
  evS (den T G 3000 17) G 3000 freeC [a,b,c,d,e,f,g,h,i,.val (.tuple [.str [97,116,111,109],.bytes w]),j]=if t then .ok (.next,[a,b,c,d,e,f,g,h,i,.val (.tuple [.str [97,116,111,109],.bytes w]),j]) else .exc:=by
 rw [freeC,if_yes (b_of rfl)]
 have hx:evE (den T G 3000 17) G (.cmp .notIn (.call 8 [(.idx (.var 9) (.lit (.int 1)))]) (.glob 1)) [a,b,c,d,e,f,g,h,i,.val (.tuple [.str [97,116,111,109],.bytes w]),j]=.ok (.bool t):=by
  simp only [xlit,xneg,xvar,xglob,xsf,xtup,xlst,xdict,xbin,xcmp,xcmp2,xand,xor,xnot,xite,xidx,xslc,xcall,xlen,xisin,xisin1,xmkB,xtyp,xjoin,xcomp,xE,xE1,xg0,xg1,b_ok,i_t1,up_den w hw]
  rw [lib.g1,b_ok,ht]; rfl
 cases t with
 | true=>rw [run_next ((if_yes (b_of rfl)).trans ((run_next (need_y lib hx)).trans run_nil)),run_nil]; rfl
 | false=>rw [run_exc ((if_yes (b_of rfl)).trans (run_exc (need_n lib hx)))]; rfl
theorem free_ok {l:Leaf} (hl:l∈t_first) (a b c d e f g h i j:Slot):evS (den T G 3000 17) G 3000 freeC [a,b,c,d,e,f,g,h,i,.val l.v,j]=.ok (.next,[a,b,c,d,e,f,g,h,i,.val l.v,j]):=by
 simp only [t_first,List.mem_cons,List.not_mem_nil,or_false] at hl
 rcases hl with h | h | h | h | h <;> subst h
 ·exact free_atom a b c d e f g _ i j _ rfl true rfl
 ·rfl
 ·rfl
 ·exact free_atom a b c d e f g _ i j _ rfl true rfl
 ·rfl
theorem free_no {l:Leaf} (hl:l∈t_firstB) (a b c d e f g h i j:Slot):evS (den T G 3000 17) G 3000 freeC [a,b,c,d,e,f,g,h,i,.val l.v,j]=.exc:=by
 simp only [t_firstB,List.mem_cons,List.not_mem_nil,or_false] at hl
 rcases hl with h | h | h | h <;> subst h <;> exact free_atom a b c d e f g _ i j _ rfl false rfl
theorem wl_data {v:PV} {vs:List PV} {os:List (Option (List Int))} (hw:Ws (v::vs) os) (hlen:vs.length≤5) (hf:∀ a b c d e f g h i j:Slot,evS (den T G 3000 17) G 3000 freeC [a,b,c,d,e,f,g,h,i,.val v,j]=.ok (.next,[a,b,c,d,e,f,g,h,i,.val v,j])) :
  den T G 3000 18 23 [.tuple [sData,.list (v::vs)]]=ofW ((allS os).map fun bs=>[42,32]++(glue [32] bs++[13,10])):=by
 rw [den_code (T:=T) (f:=23) (vs:=vf_write_line) (k:=1) (body:=cf_write_line) rfl rfl]
 show outS (evSs _ _ _ cf_write_line [.val (.tuple [sData,.list (v::vs)]),.unset,.unset,.unset,.unset,.unset,.unset,.unset,.unset,.unset,.unset])=_
 rw [cf_write_line,run_next (need_y lib (by rfl)),run_next (to_assign (v:=sData) rfl)]
 simp only [xp0,xp1]
 rw [run_next ((if_no (b_of rfl)).trans run_nil)]
 have hpos:evE (den T G 3000 17) G (.and_ [(.isin (.var 8) [.list,.tuple]),(.cmp .gt (.len (.var 8)) (.lit (.int 0)))]) [.val (.tuple [sData,.list (v::vs)]),.val sData,.unset,.unset,.unset,.unset,.unset,.unset,.val (.list (v::vs)),.unset,.unset]=.ok (.bool true):=by
  have:decide ((0:Int)<((v::vs).length:Int))=true:=by rw [decide_eq_true_eq,List.length_cons]; lia
  simp only [xlit,xneg,xvar,xglob,xsf,xtup,xlst,xdict,xbin,xcmp,xcmp2,xand,xor,xnot,xite,xidx,xslc,xcall,xlen,xisin,xisin1,xmkB,xtyp,xjoin,xcomp,xA1,xA2,xg0,xg1,b_ok,isBool,l_l,c_gti,this,t_bool,Bool.false_eq_true,if_false,List.any,isP,Bool.true_or,if_true]
 have key:evSs (den T G 3000 17) G 3000 [.expr (.call 0 [(.cmp .eq (.len (.var 0)) (.lit (.int 2)))]),.assign 8 (.idx (.var 0) (.lit (.int 1))),.expr (.call 0 [(.and_ [(.isin (.var 8) [.list,.tuple]),(.cmp .gt (.len (.var 8)) (.lit (.int 0)))])]),.assign 9 (.idx (.var 8) (.lit (.int 0))),freeC,.assign 10 (.comp (.call 16 [(.var 0)]) (.var 8) none),.ret (.bin .add (.bin .add (.lit (.bytes [42,32])) (.join (.lit (.bytes [32])) (.var 10))) (.lit (.bytes [13,10])))]
   [.val (.tuple [sData,.list (v::vs)]),.val sData,.unset,.unset,.unset,.unset,.unset,.unset,.unset,.unset,.unset]=match allS os with
    | some bs=>.ok (.ret (.bytes ([42,32]++(glue [32] bs++[13,10]))),[.val (.tuple [sData,.list (v::vs)]),.val sData,.unset,.unset,.unset,.unset,.unset,.unset,.val (.list (v::vs)),.val v,.val (.list (bs.map PV.bytes))])
    | none=>.exc:=by
  rw [run_next (need_y lib (by rfl)),run_next (to_assign (v:=.list (v::vs)) rfl)]
  simp only [xp0,xp1]
  rw [run_next (need_y lib hpos),run_next (to_assign (v:=v) rfl)]
  simp only [xp0,xp1]
  rw [run_next (hf _ _ _ _ _ _ _ _ _ _)]
  have hm:=ws_map hw
  cases ha:allS os with
  | none =>
   rw [ha] at hm
   rw [run_exc (by rw [xset,xcomp,xvar]; simp only [xg0,xg1,b_ok,it_l,hm,b_exc])]
  | some bs =>
   rw [ha] at hm
   rw [run_next (to_assign (v:=.list (bs.map PV.bytes)) (by rw [xcomp,xvar]; simp only [xg0,xg1,b_ok,it_l,hm]))]
   simp only [xp0,xp1]
   have hsm:=hw.small bs ha
   have hl5:bs.length≤10:=by
    have h1:=hw.len
    have h2:=allS_len ha
    simp only [List.length_cons] at h1; lia
   have hg:=glue_le _ hsm
   rw [run_ret (to_ret (v:=.bytes ([42,32]++(glue [32] bs++[13,10]))) (by
    simp only [xlit,xneg,xvar,xglob,xsf,xtup,xlst,xdict,xbin,xcmp,xcmp2,xand,xor,xnot,xite,xidx,xslc,xcall,xlen,xisin,xisin1,xmkB,xtyp,xjoin,xcomp,xg0,xg1,b_ok]
    rw [j_b hsm hl5,b_ok,o_addb2 _ _ (by show 2+_≤_; lia),b_ok,o_addb2 _ _ (by simp only [List.length_append,List.length_cons,List.length_nil]; lia),List.append_assoc]))]
 have hi:=if_yes (W:=3000) (b:=[]) (ρ:=[.val (.tuple [sData,.list (v::vs)]),.val sData,.unset,.unset,.unset,.unset,.unset,.unset,.unset,.unset,.unset]) (b_of (F:=den T G 3000 17) (G:=G) (c:=(.cmp .eq (.var 1) (.lit (.str [100,97,116,97])))) (b:=true) rfl) |>.trans key
 cases ha:allS os with
 | none=>rw [ha] at hi; exact (congrArg outS (run_exc hi)).trans rfl
 | some bs=>rw [ha] at hi; exact (congrArg outS (run_ret hi)).trans rfl
theorem wl_data_no {v:PV} {vs:List PV} (hf:∀ a b c d e f g h i j:Slot,evS (den T G 3000 17) G 3000 freeC [a,b,c,d,e,f,g,h,i,.val v,j]=.exc) :
  den T G 3000 18 23 [.tuple [sData,.list (v::vs)]]=.exc:=by
 rw [den_code (T:=T) (f:=23) (vs:=vf_write_line) (k:=1) (body:=cf_write_line) rfl rfl]
 show outS (evSs _ _ _ cf_write_line [.val (.tuple [sData,.list (v::vs)]),.unset,.unset,.unset,.unset,.unset,.unset,.unset,.unset,.unset,.unset])=_
 rw [cf_write_line,run_next (need_y lib (by rfl)),run_next (to_assign (v:=sData) rfl)]
 simp only [xp0,xp1]
 rw [run_next ((if_no (b_of rfl)).trans run_nil)]
 have hpos:evE (den T G 3000 17) G (.and_ [(.isin (.var 8) [.list,.tuple]),(.cmp .gt (.len (.var 8)) (.lit (.int 0)))]) [.val (.tuple [sData,.list (v::vs)]),.val sData,.unset,.unset,.unset,.unset,.unset,.unset,.val (.list (v::vs)),.unset,.unset]=.ok (.bool true):=by
  have:decide ((0:Int)<((v::vs).length:Int))=true:=by rw [decide_eq_true_eq,List.length_cons]; lia
  simp only [xlit,xneg,xvar,xglob,xsf,xtup,xlst,xdict,xbin,xcmp,xcmp2,xand,xor,xnot,xite,xidx,xslc,xcall,xlen,xisin,xisin1,xmkB,xtyp,xjoin,xcomp,xA1,xA2,xg0,xg1,b_ok,isBool,l_l,c_gti,this,t_bool,Bool.false_eq_true,if_false,List.any,isP,Bool.true_or,if_true]
 have key:evSs (den T G 3000 17) G 3000 [.expr (.call 0 [(.cmp .eq (.len (.var 0)) (.lit (.int 2)))]),.assign 8 (.idx (.var 0) (.lit (.int 1))),.expr (.call 0 [(.and_ [(.isin (.var 8) [.list,.tuple]),(.cmp .gt (.len (.var 8)) (.lit (.int 0)))])]),.assign 9 (.idx (.var 8) (.lit (.int 0))),freeC,.assign 10 (.comp (.call 16 [(.var 0)]) (.var 8) none),.ret (.bin .add (.bin .add (.lit (.bytes [42,32])) (.join (.lit (.bytes [32])) (.var 10))) (.lit (.bytes [13,10])))]
   [.val (.tuple [sData,.list (v::vs)]),.val sData,.unset,.unset,.unset,.unset,.unset,.unset,.unset,.unset,.unset]=.exc:=by
  rw [run_next (need_y lib (by rfl)),run_next (to_assign (v:=.list (v::vs)) rfl)]
  simp only [xp0,xp1]
  rw [run_next (need_y lib hpos),run_next (to_assign (v:=v) rfl)]
  simp only [xp0,xp1]
  rw [run_exc (hf _ _ _ _ _ _ _ _ _ _)]
 have hi:=if_yes (W:=3000) (b:=[]) (ρ:=[.val (.tuple [sData,.list (v::vs)]),.val sData,.unset,.unset,.unset,.unset,.unset,.unset,.unset,.unset,.unset]) (b_of (F:=den T G 3000 17) (G:=G) (c:=(.cmp .eq (.var 1) (.lit (.str [100,97,116,97])))) (b:=true) rfl) |>.trans key
 exact (congrArg outS (run_exc hi)).trans rfl
noncomputable def lineTail:List CS:=[.assign 2 (.idx (.var 0) (.lit (.int 1))),.assign 3 (.idx (.var 0) (.lit (.int 2))),.assign 4 (.idx (.var 0) (.lit (.int 3))),.assign 5 (.idx (.var 0) (.lit (.int 4))),.expr (.call 0 [(.cmp .in_ (.var 3) (.glob 1))]),.expr (.call 0 [(.or_ [(.cmp .eq (.var 2) (.lit (.bytes []))),(.call 9 [(.var 2)])])]),.assign 6 (.lit (.bytes [42])),.if_ (.cmp .ne (.var 2) (.lit (.bytes []))) [.assign 6 (.var 2)] [],.assign 7 (.lit (.bytes [])),.if_ (.cmp .isNot (.var 4) (.lit .none)) [.expr (.call 0 [(.and_ [(.isin (.var 4) [.list,.tuple]),(.cmp .gt (.len (.var 4)) (.lit (.int 0)))])]),.assign 10 (.comp (.call 16 [(.var 0)]) (.var 4) none),.assign 7 (.bin .add (.bin .add (.lit (.bytes [91])) (.join (.lit (.bytes [32])) (.var 10))) (.lit (.bytes [93,32])))] [],.ret (.bin .add (.bin .add (.bin .add (.bin .add (.bin .add (.bin .add (.var 6) (.lit (.bytes [32]))) (.var 3)) (.lit (.bytes [32]))) (.var 7)) (.call 22 [(.var 5)])) (.lit (.bytes [13,10])))]
theorem wl_stat_in (l:List PV) (hl:l.length=4):den T G 3000 18 23 [.tuple (sStat::l)]=outS (evSs (den T G 3000 17) G 3000 lineTail [.val (.tuple (sStat::l)),.val sStat,.unset,.unset,.unset,.unset,.unset,.unset,.unset,.unset,.unset]):=by
 rw [den_code (T:=T) (f:=23) (vs:=vf_write_line) (k:=1) (body:=cf_write_line) rfl rfl]
 show outS (evSs _ _ _ cf_write_line [.val (.tuple (sStat::l)),.unset,.unset,.unset,.unset,.unset,.unset,.unset,.unset,.unset,.unset])=_
 have h5:decide ((1:Int)≤((sStat::l).length:Int))=true:=by rw [List.length_cons,hl]; rfl
 have h6:(((sStat::l).length:Int) == 5)=true:=by rw [List.length_cons,hl]; rfl
 rw [cf_write_line,run_next (need_y lib (by simp only [xlit,xneg,xvar,xglob,xsf,xtup,xlst,xdict,xbin,xcmp,xcmp2,xand,xor,xnot,xite,xidx,xslc,xcall,xlen,xisin,xisin1,xmkB,xtyp,xjoin,xcomp,xA1,xA2,xg0,xg1,b_ok,isBool,l_t,c_gei,h5,t_bool,Bool.false_eq_true,if_false,List.any,isP,Bool.true_or,if_true])),run_next (to_assign (v:=sStat) rfl)]
 simp only [xp0,xp1]
 rw [run_next ((if_no (b_of rfl)).trans run_nil),run_next ((if_no (b_of rfl)).trans run_nil)]
 have hc:evE (den T G 3000 17) G (.and_ [(.cmp .eq (.var 1) (.lit (.str [115,116,97,116,117,115]))),(.cmp .eq (.len (.var 0)) (.lit (.int 5)))]) [.val (.tuple (sStat::l)),.val sStat,.unset,.unset,.unset,.unset,.unset,.unset,.unset,.unset,.unset]=.ok (.bool true):=by
  simp only [xlit,xneg,xvar,xglob,xsf,xtup,xlst,xdict,xbin,xcmp,xcmp2,xand,xor,xnot,xite,xidx,xslc,xcall,xlen,xisin,xisin1,xmkB,xtyp,xjoin,xcomp,xA1,xA2,xg0,xg1,b_ok,sStat,c_eqs,l_t,c_eqi,t_bool]
  rw [show (((PV.str [115,116,97,116,117,115]::l).length:Int) == 5)=true from h6]; rfl
 exact congrArg outS (run_next (need_y lib hc))
theorem wl_stat_len (l:List PV) (hl:l.length=5):den T G 3000 18 23 [.tuple (sStat::l)]=.exc:=by
 rw [den_code (T:=T) (f:=23) (vs:=vf_write_line) (k:=1) (body:=cf_write_line) rfl rfl]
 show outS (evSs _ _ _ cf_write_line [.val (.tuple (sStat::l)),.unset,.unset,.unset,.unset,.unset,.unset,.unset,.unset,.unset,.unset])=_
 have h5:decide ((1:Int)≤((sStat::l).length:Int))=true:=by rw [List.length_cons,hl]; rfl
 have h6:(((sStat::l).length:Int) == 5)=false:=by rw [List.length_cons,hl]; rfl
 rw [cf_write_line,run_next (need_y lib (by simp only [xlit,xneg,xvar,xglob,xsf,xtup,xlst,xdict,xbin,xcmp,xcmp2,xand,xor,xnot,xite,xidx,xslc,xcall,xlen,xisin,xisin1,xmkB,xtyp,xjoin,xcomp,xA1,xA2,xg0,xg1,b_ok,isBool,l_t,c_gei,h5,t_bool,Bool.false_eq_true,if_false,List.any,isP,Bool.true_or,if_true])),run_next (to_assign (v:=sStat) rfl)]
 simp only [xp0,xp1]
 rw [run_next ((if_no (b_of rfl)).trans run_nil),run_next ((if_no (b_of rfl)).trans run_nil)]
 have hc:evE (den T G 3000 17) G (.and_ [(.cmp .eq (.var 1) (.lit (.str [115,116,97,116,117,115]))),(.cmp .eq (.len (.var 0)) (.lit (.int 5)))]) [.val (.tuple (sStat::l)),.val sStat,.unset,.unset,.unset,.unset,.unset,.unset,.unset,.unset,.unset]=.ok (.bool false):=by
  simp only [xlit,xneg,xvar,xglob,xsf,xtup,xlst,xdict,xbin,xcmp,xcmp2,xand,xor,xnot,xite,xidx,xslc,xcall,xlen,xisin,xisin1,xmkB,xtyp,xjoin,xcomp,xA1,xA2,xg0,xg1,b_ok,sStat,c_eqs,l_t,c_eqi,t_bool]
  rw [show (((PV.str [115,116,97,116,117,115]::l).length:Int) == 5)=false from h6]; rfl
 exact (congrArg outS (run_exc (need_n lib hc))).trans rfl
inductive Wcode:PV→Option (List Int)→Prop
 | none:Wcode .none (some [])
 | dict:Wcode .dict0 Option.none
 | nil:Wcode (.list []) Option.none
 | cons {v:PV} {vs:List PV} {os:List (Option (List Int))} (h:Ws (v::vs) os) (hlen:vs.length≤5):Wcode (.list (v::vs)) ((allS os).map fun bs=>[91]++(glue [32] bs++[93,32]))
theorem Wcode.small {code:PV} {o:Option (List Int)} (h:Wcode code o):∀ b,o=some b→b.length≤1100:=by
 intro b hb
 cases h with
 | none=>cases hb; simp
 | dict=>cases hb
 | nil=>cases hb
 | @cons v vs os hw hlen =>
  cases ha:allS os with
  | none=>rw [ha] at hb; cases hb
  | some bs =>
   rw [ha] at hb
   cases hb
   have hg:=glue_le _ (hw.small bs ha)
   have h1:=hw.len
   have h2:=allS_len ha
   simp only [List.length_cons,List.length_append,List.length_nil] at h1 ⊢
   lia
noncomputable def codeC:CS:=.if_ (.cmp .isNot (.var 4) (.lit .none)) [.expr (.call 0 [(.and_ [(.isin (.var 4) [.list,.tuple]),(.cmp .gt (.len (.var 4)) (.lit (.int 0)))])]),.assign 10 (.comp (.call 16 [(.var 0)]) (.var 4) none),.assign 7 (.bin .add (.bin .add (.lit (.bytes [91])) (.join (.lit (.bytes [32])) (.var 10))) (.lit (.bytes [93,32])))] []
theorem code_w {code:PV} {o:Option (List Int)} (h:Wcode code o) (a b c d f g i j:Slot) :
  (o=none→evS (den T G 3000 17) G 3000 codeC [a,b,c,d,.val code,f,g,.val (.bytes []),i,j,.unset]=.exc) ∧
  ∀ m,o=some m→∃ k,evS (den T G 3000 17) G 3000 codeC [a,b,c,d,.val code,f,g,.val (.bytes []),i,j,.unset]=.ok (.next,[a,b,c,d,.val code,f,g,.val (.bytes m),i,j,k]):=by
 cases h with
 | none=>exact ⟨fun h=>(by cases h),fun m hm=>⟨.unset,by cases hm; rw [codeC,if_no (b_of rfl),run_nil]⟩⟩
 | dict=>exact ⟨fun _=>(if_yes (b_of rfl)).trans (run_exc (need_n lib (by rfl))),fun m hm=>by cases hm⟩
 | nil=>exact ⟨fun _=>(if_yes (b_of rfl)).trans (run_exc (need_n lib (by rfl))),fun m hm=>by cases hm⟩
 | @cons v vs os hw hlen =>
  have hpos:evE (den T G 3000 17) G (.and_ [(.isin (.var 4) [.list,.tuple]),(.cmp .gt (.len (.var 4)) (.lit (.int 0)))]) [a,b,c,d,.val (.list (v::vs)),f,g,.val (.bytes []),i,j,.unset]=.ok (.bool true):=by
   have:decide ((0:Int)<((v::vs).length:Int))=true:=by rw [decide_eq_true_eq,List.length_cons]; lia
   simp only [xlit,xneg,xvar,xglob,xsf,xtup,xlst,xdict,xbin,xcmp,xcmp2,xand,xor,xnot,xite,xidx,xslc,xcall,xlen,xisin,xisin1,xmkB,xtyp,xjoin,xcomp,xA1,xA2,xg0,xg1,b_ok,isBool,l_l,c_gti,this,t_bool,Bool.false_eq_true,if_false,List.any,isP,Bool.true_or,if_true]
  have hm:=ws_map hw
  cases ha:allS os with
  | none =>
   rw [ha] at hm
   refine ⟨fun _=>?_,fun m hm=>by cases hm⟩
   rw [codeC,if_yes (b_of rfl),run_next (need_y lib hpos),run_exc (by rw [xset,xcomp,xvar]; simp only [xg0,xg1,b_ok,it_l]; rw [hm]; rfl)]
  | some bs =>
   rw [ha] at hm
   refine ⟨fun h=>(by cases h),fun m hm2=>⟨.val (.list (bs.map PV.bytes)),?_⟩⟩
   cases hm2
   have hsm:=hw.small bs ha
   have hl5:bs.length≤10:=by
    have h1:=hw.len
    have h2:=allS_len ha
    simp only [List.length_cons] at h1; lia
   have hg:=glue_le _ hsm
   rw [codeC,if_yes (b_of rfl),run_next (need_y lib hpos),run_next (to_assign (v:=.list (bs.map PV.bytes)) (by rw [xcomp,xvar]; simp only [xg0,xg1,b_ok,it_l]; rw [hm]; rfl))]
   simp only [xp0,xp1]
   rw [run_next (to_assign (v:=.bytes ([91]++(glue [32] bs++[93,32]))) (by
    simp only [xlit,xneg,xvar,xglob,xsf,xtup,xlst,xdict,xbin,xcmp,xcmp2,xand,xor,xnot,xite,xidx,xslc,xcall,xlen,xisin,xisin1,xmkB,xtyp,xjoin,xcomp,xg0,xg1,b_ok]
    rw [j_b hsm hl5,b_ok,o_addb2 _ _ (by show 1+_≤_; lia),b_ok,o_addb2 _ _ (by simp only [List.length_append,List.length_cons,List.length_nil]; lia),List.append_assoc]))]
   simp only [xp0,xp1]
   rw [run_nil]
theorem wl_stat (tag word:List Int) (code:PV) (x:List Int) (bw bt:Bool) (oc ox:Option (List Int)) (htl:tag.length≤100) (hwl:word.length≤100)
  (hw:cmpP .in_ (.bytes word) (.tuple [.bytes [79,75],.bytes [78,79],.bytes [66,65,68],.bytes [66,89,69]])=.ok bw)
  (ht:tag≠[]→den T G 3000 17 9 [.bytes tag]=.ok (.bool bt)) (ht0:tag=[]→bt=true) (hc:Wcode code oc) (hx:den T G 3000 17 22 [.bytes x]=ofW ox) (hxl:∀ b,ox=some b→b.length≤100) :
  den T G 3000 18 23 [.tuple [sStat,.bytes tag,.bytes word,code,.bytes x]]=ofW (if (bw && bt)=true then oapp (some ((if tag=[] then [42] else tag)++[32]++word++[32])) (oapp oc (oapp ox (some [13,10]))) else none):=by
 rw [wl_stat_in _ rfl,lineTail,run_next (to_assign (v:=.bytes tag) rfl)]
 simp only [xp0,xp1]
 rw [run_next (to_assign (v:=.bytes word) rfl)]
 simp only [xp0,xp1]
 rw [run_next (to_assign (v:=code) rfl)]
 simp only [xp0,xp1]
 rw [run_next (to_assign (v:=.bytes x) rfl)]
 simp only [xp0,xp1]
 have hin:∀ ρ:List Slot,getS ρ 3=.val (.bytes word)→evE (den T G 3000 17) G (.cmp .in_ (.var 3) (.glob 1)) ρ=.ok (.bool bw):=by
  intro ρ hρ
  simp only [xlit,xneg,xvar,xglob,xsf,xtup,xlst,xdict,xbin,xcmp,xcmp2,xand,xor,xnot,xite,xidx,xslc,xcall,xlen,xisin,xisin1,xmkB,xtyp,xjoin,xcomp,hρ,b_ok]
  rw [lib.g1,b_ok,hw]; rfl
 cases bw with
 | false=>rw [run_exc (need_n lib (hin _ rfl))]; rfl
 | true =>
  rw [run_next (need_y lib (hin _ rfl))]
  have hor:∀ ρ:List Slot,getS ρ 2=.val (.bytes tag)→evE (den T G 3000 17) G (.or_ [(.cmp .eq (.var 2) (.lit (.bytes []))),(.call 9 [(.var 2)])]) ρ=.ok (.bool bt):=by
   intro ρ hρ
   simp only [xlit,xneg,xvar,xglob,xsf,xtup,xlst,xdict,xbin,xcmp,xcmp2,xand,xor,xnot,xite,xidx,xslc,xcall,xlen,xisin,xisin1,xmkB,xtyp,xjoin,xcomp,xR1,xR2,xE,xE1,hρ,b_ok,c_eqb,t_bool]
   by_cases h0:tag=[]
   ·rw [h0,ht0 h0]; rfl
   ·have:(tag == [])=false:=by rw [beq_eq_false_iff_ne]; exact h0
    rw [this,ht h0]; rfl
  cases bt with
  | false=>rw [run_exc (need_n lib (hor _ rfl))]; rfl
  | true =>
   rw [run_next (need_y lib (hor _ rfl)),run_next (to_assign (v:=.bytes [42]) rfl)]
   simp only [xp0,xp1]
   have hif:evS (den T G 3000 17) G 3000 (.if_ (.cmp .ne (.var 2) (.lit (.bytes []))) [.assign 6 (.var 2)] []) [.val (.tuple [sStat,.bytes tag,.bytes word,code,.bytes x]),.val sStat,.val (.bytes tag),.val (.bytes word),.val code,.val (.bytes x),.val (.bytes [42]),.unset,.unset,.unset,.unset] =
     .ok (.next,[.val (.tuple [sStat,.bytes tag,.bytes word,code,.bytes x]),.val sStat,.val (.bytes tag),.val (.bytes word),.val code,.val (.bytes x),.val (.bytes (if tag=[] then [42] else tag)),.unset,.unset,.unset,.unset]):=by
    by_cases h0:tag=[]
    ·subst h0; rw [if_no (b_of rfl),run_nil]; rfl
    ·have:(tag == [])=false:=by rw [beq_eq_false_iff_ne]; exact h0
     rw [if_yes (b_of (by simp only [xlit,xneg,xvar,xglob,xsf,xtup,xlst,xdict,xbin,xcmp,xcmp2,xand,xor,xnot,xite,xidx,xslc,xcall,xlen,xisin,xisin1,xmkB,xtyp,xjoin,xcomp,xg0,xg1,b_ok,c_neb,this,Bool.not_false])),run_next (to_assign (v:=.bytes tag) rfl),run_nil,if_neg h0]
     rfl
   rw [run_next hif,run_next (to_assign (v:=.bytes []) rfl)]
   simp only [xp0,xp1]
   generalize hH:(if tag=[] then [42] else tag)=head
   have hhl:head.length≤100:=by rw [← hH]; split; (· simp); (· exact htl)
   have hcw:=code_w hc (.val (.tuple [sStat,.bytes tag,.bytes word,code,.bytes x])) (.val sStat) (.val (.bytes tag)) (.val (.bytes word)) (.val (.bytes x)) (.val (.bytes head)) .unset .unset
   cases oc with
   | none =>
    refine (congrArg outS (run_exc (hcw.1 rfl))).trans ?_
    rfl
   | some m =>
    obtain ⟨k,hk⟩:=hcw.2 m rfl
    refine (congrArg outS (run_next hk)).trans ?_
    have hml:=hc.small m rfl
    cases ox with
    | none =>
     rw [run_exc]
     ·rfl
     ·simp only [xfrz,xset,xown,xsetT,xaug,xapp,xexpr,xret,xif,xwhile,xfor,xforT,xraise,xtry,xbrk,xlit,xneg,xvar,xglob,xsf,xtup,xlst,xdict,xbin,xcmp,xcmp2,xand,xor,xnot,xite,xidx,xslc,xcall,xlen,xisin,xisin1,xmkB,xtyp,xjoin,xcomp,xE,xE1,xg0,xg1,b_ok]
      rw [o_addb2 _ _ (by simp only [List.length_append,List.length_cons,List.length_nil]; lia),b_ok,o_addb2 _ _ (by simp only [List.length_append,List.length_cons,List.length_nil]; lia),b_ok,o_addb2 _ _ (by simp only [List.length_append,List.length_cons,List.length_nil]; lia),b_ok,o_addb2 _ _ (by simp only [List.length_append,List.length_cons,List.length_nil]; lia),b_ok,hx]
      rfl
    | some b =>
     have hbl:=hxl b rfl
     rw [run_ret (v:=.bytes ((head++[32]++word++[32])++(m++(b++[13,10]))))]
     ·rfl
     ·refine to_ret ?_
      simp only [xlit,xneg,xvar,xglob,xsf,xtup,xlst,xdict,xbin,xcmp,xcmp2,xand,xor,xnot,xite,xidx,xslc,xcall,xlen,xisin,xisin1,xmkB,xtyp,xjoin,xcomp,xE,xE1,xg0,xg1,b_ok]
      rw [o_addb2 _ _ (by simp only [List.length_append,List.length_cons,List.length_nil]; lia),b_ok,o_addb2 _ _ (by simp only [List.length_append,List.length_cons,List.length_nil]; lia),b_ok,o_addb2 _ _ (by simp only [List.length_append,List.length_cons,List.length_nil]; lia),b_ok,o_addb2 _ _ (by simp only [List.length_append,List.length_cons,List.length_nil]; lia),b_ok,hx]
      simp only [ofW,b_ok]
      rw [o_addb2 _ _ (by simp only [List.length_append,List.length_cons,List.length_nil]; lia),b_ok,o_addb2 _ _ (by simp only [List.length_append,List.length_cons,List.length_nil]; lia)]
      simp only [List.append_assoc]
end L2
end Mine
namespace Mine
namespace L2
theorem isSome_some {o:Option (List Int)} {w:List Int} (h:(match o with | some b=>beqL b w | none=>true)=true):o=if o.isSome then some w else none:=by
 cases o with
 | none=>rfl
 | some b=>rw [beqL_so _ _ h]; rfl
theorem tag_w {q:Part} (h:q∈(⟨[],0,none⟩::(t_tag++t_tagB):List Part)):den T G 3000 17 9 [.bytes q.w]=.ok (.bool q.o.isSome)∧q.o=if q.o.isSome then some q.w else none:=by
 have:=List.all_eq_true.1 w_tag q h
 rw [Bool.and_eq_true] at this
 exact ⟨isT_so this.1,isSome_some this.2⟩
theorem name_w {q:Nam} (h:q∈t_name++t_nameB):den T G 3000 17 10 [.bytes q.w]=.ok (.bool q.o.isSome)∧q.o=if q.o.isSome then some q.w else none:=by
 have:=List.all_eq_true.1 w_name q h
 rw [Bool.and_eq_true] at this
 exact ⟨isT_so this.1,isSome_some this.2⟩
theorem text_w {q:Part} (h:q∈(⟨[91],1,none⟩::texts:List Part)):den T G 3000 17 22 [.bytes q.w]=ofW q.o∧∀ b,q.o=some b→b.length≤100:=isW_so (List.all_eq_true.1 w_text q h)
noncomputable def Pk.os (p:Pk):List (Option (List Int)):=p.first.o::(if 1<p.size then [ownsOf (val3 0 p.k p.leaf)] else [])
theorem Pk.ws (p:Pk) (hp:p.Ok) (hf:p.first∈t_first):Ws (p.first.v::p.moreV) p.os:=by
 have h1:=isW_so (List.all_eq_true.1 w_first _ hf)
 refine Ws.cons h1.1 h1.2 ?_
 unfold Pk.moreV
 split
 ·have h2:=isW_so (List.all_eq_true.1 (List.all_eq_true.1 w_leaves _ p.leaf_in) _ hp.kmem)
  exact Ws.cons h2.1 h2.2 Ws.nil
 ·exact Ws.nil
theorem moreV_len (p:Pk):p.moreV.length≤1:=by unfold Pk.moreV; split <;> simp
theorem sep_o (p:Pk):p.sep.o=some [32]:=by rcases p.sep_in with h | h | h <;> rw [h]
theorem more_owns (p:Pk):ownsOf (p.first.part::p.more)=(allS p.os).map (glue [32]):=by
 rw [owns_cons]
 unfold Pk.more Pk.os
 show oapp p.first.o _=_
 split
 ·rw [owns_cons,sep_o,owns_val3 p.depth 0]
  have e:(([⟨opens p.k,deepAt 0 p.k p.leaf,some (opens p.k)⟩,p.leaf.part,⟨closes p.k,-1,some (closes p.k)⟩]):List Part)=val3 0 p.k p.leaf:=rfl
  rw [e]
  generalize ownsOf (val3 0 p.k p.leaf)=o2
  cases p.first.o <;> cases o2 <;> simp [oapp,allS,glue]
 ·rw [owns_nil]
  cases p.first.o <;> simp [oapp,allS,glue]
theorem own9_o (spot:Int) (ps:List Part):ownsOf (own9 spot ps)=if spot=9 then none else ownsOf ps:=by
 unfold own9
 split
 ·rw [owns_app]; rfl
 ·rfl
theorem end_o {e:Part} (he:e∈t_end):e.o=some [13,10]:=by
 simp only [t_end,List.mem_cons,List.not_mem_nil,or_false] at he; rw [he]
theorem endB_o {e:Part} (he:e∈t_endB):e.o=none:=by
 simp only [t_endB,List.mem_cons,List.not_mem_nil,or_false] at he
 rcases he with h | h | h <;> rw [h]
theorem end_own (c spot:Int):(pick z3 t_end t_endB c (decide (spot=8))).o=if spot=8 then none else some [13,10]:=by
 by_cases h:spot=8
 ·rw [if_pos h,decide_eq_true h]; exact endB_o (pick_bad _ _ _ _ (by decide))
 ·rw [if_neg h,decide_eq_false h]; exact end_o (pick_good _ _ _ _ (by decide))
noncomputable def wrD (p:Pk) (v:PV):Res PV:=if p.kind=0 then den T G 3000 18 27 [v] else den T G 3000 18 23 [v]
theorem made0 {p:Pk} (hk:p.kind=0):p.made.1=(if p.spot=6 then (⟨[],0,none⟩:Part) else pick z3 t_tag t_tagB p.a (decide (p.spot=3)))::sp::(pick z5 t_name t_nameB p.b (decide (p.spot=4))).part::p.row0 (pick z3 t_end t_endB p.c (decide (p.spot=8))):=by
 unfold Pk.made L2.mk
 rw [if_pos hk]
 generalize (if p.spot=6 then (⟨[],0,none⟩:Part) else pick z3 t_tag t_tagB p.a (decide (p.spot=3)))=tag'
 generalize pick z5 t_name t_nameB p.b (decide (p.spot=4))=name
 generalize pick z3 t_end t_endB p.c (decide (p.spot=8))=e
 show [tag',sp,name.part]++(if p.vals≠[] then [sp]++(if p.spot=9 then p.body++[noOwn] else p.body) else (if p.spot=9 then p.body++[noOwn] else p.body))++[e]=_
 unfold Pk.row0 own9
 by_cases hs:0<p.size
 ·rw [if_pos hs,(p.body_two (Or.inl hs)).2,(p.body_two (Or.inl hs)).1,if_pos (by intro h; cases h)]
  split <;> simp
 ·rw [if_neg hs,(p.body_none hs (by lia)).2,(p.body_none hs (by lia)).1,if_neg (by intro h; exact h rfl)]
  split <;> simp
theorem vals0 {p:Pk} (hk:p.kind=0):p.vals=p.row0V:=by
 unfold Pk.row0V
 by_cases hs:0<p.size
 ·rw [if_pos hs]; exact (p.body_two (Or.inl hs)).2
 ·rw [if_neg hs]; exact (p.body_none hs (by lia)).2
theorem row0_o (p:Pk) (e:Part):ownsOf (p.row0 e)=if 0<p.size then oapp (some [32]) (oapp ((allS p.os).map (glue [32])) (if p.spot=9 then none else oapp e.o (some []))) else (if p.spot=9 then none else oapp e.o (some [])):=by
 unfold Pk.row0
 split
 ·rw [owns_cons,← List.cons_append,owns_app,more_owns,own9_o,owns_cons,owns_nil]; rfl
 ·rw [own9_o,owns_cons,owns_nil]
theorem os_some {p:Pk} {bs:List (List Int)} (h:allS p.os=some bs):∃ b r,bs=b::r:=by
 have:=allS_len h
 cases bs with
 | nil=>simp [Pk.os] at this
 | cons b r=>exact ⟨b,r,rfl⟩
theorem handed_eq {p:Pk} {l:List PV} (h:p.made.2.1=.tuple l):p.handed=if p.spot=8 then .tuple (l++[.int 0]) else .tuple l:=by
 unfold Pk.handed; rw [h]
theorem tagL:∀ q∈(⟨[],0,none⟩::(t_tag++t_tagB):List Part),q.w.length≤100:=by decide
theorem nameL:∀ q∈t_name++t_nameB,q.w.length≤100:=by decide
theorem write0 {p:Pk} (hp:p.Ok) (hk:p.kind=0):wrD p p.handed=ofW (ownsOf p.made.1):=by
 have hm2:p.made.2.1=.tuple [.bytes (if p.spot=6 then (⟨[],0,none⟩:Part) else pick z3 t_tag t_tagB p.a (decide (p.spot=3))).w,.bytes (pick z5 t_name t_nameB p.b (decide (p.spot=4))).w,if p.spot=9 then .dict0 else .list p.row0V]:=by
  rw [← vals0 hk]
  unfold Pk.made L2.mk
  rw [if_pos hk]
 have htag:(if p.spot=6 then (⟨[],0,none⟩:Part) else pick z3 t_tag t_tagB p.a (decide (p.spot=3)))∈(⟨[],0,none⟩::(t_tag++t_tagB):List Part):=by
  split
  ·exact List.mem_cons_self
  ·exact List.mem_cons_of_mem _ (pick_in _ _ _ _ _ (by decide) (by decide))
 have hname:pick z5 t_name t_nameB p.b (decide (p.spot=4))∈t_name++t_nameB:=pick_in _ _ _ _ _ (by decide) (by decide)
 rw [handed_eq hm2,made0 hk,owns_cons,owns_cons,owns_cons,row0_o,end_own]
 unfold wrD
 rw [if_pos hk]
 generalize (if p.spot=6 then (⟨[],0,none⟩:Part) else pick z3 t_tag t_tagB p.a (decide (p.spot=3)))=tag at *
 generalize pick z5 t_name t_nameB p.b (decide (p.spot=4))=name at *
 obtain ⟨h9,ho9⟩:=tag_w htag
 obtain ⟨h10,ho10⟩:=name_w hname
 by_cases h8:p.spot=8
 ·rw [if_pos h8,if_pos h8,wc_len _ (by simp),if_neg (show ¬ p.spot=9 by lia)]
  simp only [none_oapp,oapp_none]
  split <;> (simp only [oapp_none]; rfl)
 ·rw [if_neg h8,if_neg h8]
  by_cases h99:p.spot=9
  ·rw [if_pos h99,if_pos h99,wc_dict _ _ _ _ h9 h10]
   simp only [none_oapp,oapp_none]
   split <;> (simp only [oapp_none]; rfl)
  ·rw [if_neg h99,if_neg h99]
   have hfin:∀ (vs:List PV) (os:List (Option (List Int))) (X:Option (List Int)),Ws vs os→vs.length≤5→(∀ t n:List Int,(allS os).map (fun bs=>glue [32] (t::n::bs)++[13,10])=oapp (some t) (oapp (some [32]) (oapp (some n) X))) →
     den T G 3000 18 27 [.tuple [.bytes tag.w,.bytes name.w,.list vs]]=ofW (oapp tag.o (oapp sp.o (oapp name.part.o X))):=by
    intro vs os X hw hl hX
    rw [wc tag.w name.w (tagL _ htag) (nameL _ hname) _ _ h9 h10 hw hl]
    show _=ofW (oapp tag.o (oapp (some [32]) (oapp name.o X)))
    rw [hX]
    cases h1:tag.o.isSome with
    | false=>rw [h1] at ho9; rw [ho9]; rfl
    | true =>
     rw [h1] at ho9
     cases h2:name.o.isSome with
     | false=>rw [h2] at ho10; rw [ho10,ho9]; rfl
     | true=>rw [h2] at ho10; rw [ho10,ho9]; rfl
   unfold Pk.row0V
   by_cases hs:0<p.size
   ·rw [if_pos hs,if_pos hs]
    refine hfin _ _ _ (p.ws hp (p.first_in (by lia))) (by have:=moreV_len p; rw [List.length_cons]; lia) ?_
    intro t n
    cases ha:allS p.os with
    | none=>rfl
    | some bs =>
     obtain ⟨b,r,hb⟩:=os_some ha
     subst hb
     simp only [Option.map,oapp_some,glue,List.append_assoc,List.append_nil]
   ·rw [if_neg hs,if_neg hs]
    refine hfin _ _ _ Ws.nil (by simp) ?_
    intro t n
    simp only [allS,Option.map,oapp_some,glue,List.append_assoc,List.append_nil]
theorem text_own {q:Part} (h:q∈texts):q∈(⟨[91],1,none⟩::texts:List Part):=List.mem_cons_of_mem _ h
theorem plus_o (a:Int) (b:Bool):(pick z3 t_plus t_plusB a b).o=some [43,32]:=by
 have:=pick_in z3 t_plus t_plusB a b (by decide) (by decide)
 simp only [t_plus,t_plusB,List.cons_append,List.nil_append,List.mem_cons,List.not_mem_nil,or_false] at this
 rcases this with h | h <;> rw [show pick z3 t_plus t_plusB a b=_ from h]
theorem star_o (a:Int) (b:Bool):(pick z3 t_star t_starB a b).o=some [42,32]:=by
 have:=pick_in z3 t_star t_starB a b (by decide) (by decide)
 simp only [t_star,t_starB,List.cons_append,List.nil_append,List.mem_cons,List.not_mem_nil,or_false] at this
 rcases this with h | h <;> rw [show pick z3 t_star t_starB a b=_ from h]
theorem write1 {p:Pk} (hk:p.kind=1):wrD p p.handed=ofW (ownsOf p.made.1):=by
 have hm:p.made=([pick z3 t_plus t_plusB p.a (decide (p.spot=3)),pick z3 t_text t_textB p.c (decide (p.spot=7)),pick z3 t_end t_endB p.c (decide (p.spot=8))],.tuple [sCont,.bytes (pick z3 t_text t_textB p.c (decide (p.spot=7))).w],.tuple [sCont,.bytes (pick z3 t_text t_textB p.c (decide (p.spot=7))).w]):=by
  unfold Pk.made L2.mk
  rw [if_neg (by lia),if_pos hk]; rfl
 have hx:pick z3 t_text t_textB p.c (decide (p.spot=7))∈texts:=pick_in _ _ _ _ _ (by decide) (by decide)
 rw [handed_eq (l:=[sCont,.bytes (pick z3 t_text t_textB p.c (decide (p.spot=7))).w]) (by rw [hm]),hm]
 show _=ofW (ownsOf [_,_,_])
 rw [owns_cons,owns_cons,owns_cons,owns_nil,plus_o,end_own]
 generalize pick z3 t_text t_textB p.c (decide (p.spot=7))=tx at *
 unfold wrD
 rw [if_neg (by lia)]
 by_cases h8:p.spot=8
 ·rw [if_pos h8,if_pos h8]
  refine (wl_cont_len (.bytes tx.w) (.int 0)).trans ?_
  simp only [none_oapp,oapp_none]; rfl
 ·rw [if_neg h8,if_neg h8]
  have:=text_w (text_own hx)
  rw [wl_cont tx.w tx.o this.1 this.2,oapp_nil]
theorem write2 {p:Pk} (hp:p.Ok) (hk:p.kind=2):wrD p p.handed=ofW (ownsOf p.made.1):=by
 have hb:=p.body_two (Or.inr (by lia))
 have hm1:p.made.1=pick z3 t_star t_starB p.a (decide (p.spot=3))::((p.first.part::p.more)++own9 p.spot [pick z3 t_end t_endB p.c (decide (p.spot=8))]):=by
  unfold Pk.made L2.mk
  rw [if_neg (by lia),if_neg (by lia),if_pos hk]
  show [_]++(if p.spot=9 then p.body++[noOwn] else p.body)++[_]=_
  rw [hb.1]; unfold own9
  split <;> simp
 have hm2:p.made.2.1=.tuple [sData,if p.spot=9 then .dict0 else .list (p.first.v::p.moreV)]:=by
  rw [← hb.2]
  unfold Pk.made L2.mk
  rw [if_neg (by lia),if_neg (by lia),if_pos hk]; rfl
 rw [handed_eq hm2,hm1,owns_cons,star_o,owns_app,more_owns,own9_o,owns_cons,owns_nil,end_own]
 unfold wrD
 rw [if_neg (by lia)]
 by_cases h8:p.spot=8
 ·rw [if_pos h8,if_pos h8,if_neg (show ¬ p.spot=9 by lia)]
  refine (wl_data_len _ (.int 0)).trans ?_
  simp only [none_oapp,oapp_none,ite_self]; rfl
 ·rw [if_neg h8,if_neg h8]
  by_cases h9:p.spot=9
  ·rw [if_pos h9,if_pos h9]
   refine wl_data_dict.trans ?_
   simp only [none_oapp,oapp_none,ite_self]; rfl
  ·rw [if_neg h9,if_neg h9]
   have hfin:p.first∈t_first++t_firstB:=pick_in _ _ _ _ _ (by decide) (by decide)
   rcases List.mem_append.1 hfin with h | h
   ·rw [wl_data (p.ws hp h) (by have:=moreV_len p; lia) (fun _ _ _ _ _ _ _ _ _ _=>free_ok h _ _ _ _ _ _ _ _ _ _)]
    cases allS p.os with
    | none=>rfl
    | some bs=>simp only [Option.map,oapp_some,List.append_nil]
   ·rw [wl_data_no (fun _ _ _ _ _ _ _ _ _ _=>free_no h _ _ _ _ _ _ _ _ _ _)]
    have:p.first.o=none:=(show ∀ l∈t_firstB,l.o=none by decide) _ h
    have e:allS p.os=none:=by unfold Pk.os; rw [this]; rfl
    rw [e]; rfl
noncomputable def isTB (r:Res Bool) (b:Bool):Bool:=match r with
 | .ok c=>b == c
 | _=>false
theorem isTB_so {r:Res Bool} {b:Bool} (h:isTB r b=true):r=.ok b:=by
 unfold isTB at h
 split at h
 ·rw [eq_of_beq h]
 ·cases h
theorem w_word:((t_word++t_wordB).all fun q=>isTB (cmpP .in_ (.bytes q.x) (.tuple [.bytes [79,75],.bytes [78,79],.bytes [66,65,68],.bytes [66,89,69]])) q.o.isSome && (match q.o with | some b=>beqL b q.x | none=>true) && decide (q.x.length≤100))=true:=by decide +kernel
theorem word_w {q:Nam} (h:q∈t_word++t_wordB):cmpP .in_ (.bytes q.x) (.tuple [.bytes [79,75],.bytes [78,79],.bytes [66,65,68],.bytes [66,89,69]])=.ok q.o.isSome∧(q.o=if q.o.isSome then some q.x else none)∧q.x.length≤100:=by
 have:=List.all_eq_true.1 w_word q h
 rw [Bool.and_eq_true,Bool.and_eq_true,decide_eq_true_eq] at this
 exact ⟨isTB_so this.1.1,isSome_some this.1.2,this.2⟩
theorem tag_ne:∀ q∈t_tag++t_tagB,q.w≠[]:=by decide
theorem fin3 {ot ow oc Y:Option (List Int)} {bt bw:Bool} {head x:List Int} (h1:ot=if bt then some head else none) (h2:ow=if bw then some x else none) :
  oapp ot (oapp (some [32]) (oapp ow (oapp (some [32]) (oapp oc Y))))=if (bw && bt)=true then oapp (some (head++[32]++x++[32])) (oapp oc Y) else none:=by
 subst h1; subst h2
 cases bt <;> cases bw <;> cases oapp oc Y <;> simp [oapp]
theorem lr_own (spot a:Int):(spot=6→(lrOf spot a).1.o=none∨(lrOf spot a).2.o=none)∧(spot≠6→(lrOf spot a).1.o=some [91]∧(lrOf spot a).2.o=some [93,32]):=by
 constructor
 ·intro h
  unfold lrOf
  rw [if_pos h]
  split
  ·simp
  ·split
   ·simp
   ·split
    ·simp
    ·split <;> simp
 ·intro h
  unfold lrOf
  rw [if_neg h]; exact ⟨rfl,rfl⟩
theorem write3 {p:Pk} (hp:p.Ok) (hk:p.kind=3):wrD p p.handed=ofW (ownsOf p.made.1):=by
 have hb:=p.body_two (Or.inr (by lia))
 have hf:p.first∈t_first:=p.first_in (by lia)
 have hq:pick z5 t_word t_wordB p.b (decide (p.spot=4) && decide (p.star=0))∈t_word++t_wordB:=pick_in _ _ _ _ _ (by decide) (by decide)
 have hx:pick z3 t_text t_textB p.c (decide (p.spot=7))∈texts:=pick_in _ _ _ _ _ (by decide) (by decide)
 have hg:pick z3 t_tag t_tagB p.a (decide (p.spot=3))∈t_tag++t_tagB:=pick_in _ _ _ _ _ (by decide) (by decide)
 have he:=end_own p.c p.spot
 have hlr:=lr_own p.spot p.a
 obtain ⟨code,oc,tx,rest,hm1,hm2,hcode,htx,hrest⟩:∃ (code:PV) (oc:Option (List Int)) (tx:Part) (rest:List Part),
   p.made.1=(if 0<p.star then (⟨[42],-1,some [42]⟩:Part) else pick z3 t_tag t_tagB p.a (decide (p.spot=3)))::sp::(pick z5 t_word t_wordB p.b (decide (p.spot=4) && decide (p.star=0))).part::sp::rest ∧
   p.made.2.1=.tuple [sStat,.bytes (if 0<p.star then [] else (pick z3 t_tag t_tagB p.a (decide (p.spot=3))).w),.bytes (pick z5 t_word t_wordB p.b (decide (p.spot=4) && decide (p.star=0))).x,code,.bytes tx.w] ∧
   Wcode code oc∧tx∈(⟨[91],1,none⟩::texts:List Part)∧ownsOf rest=oapp oc (oapp tx.o (pick z3 t_end t_endB p.c (decide (p.spot=8))).o):=by
  by_cases hcd:p.coded=0
  ·refine ⟨.none,some [],if (pick z3 t_text t_textB p.c (decide (p.spot=7))).w=[91] then ⟨[91],1,none⟩ else pick z3 t_text t_textB p.c (decide (p.spot=7)),[if (pick z3 t_text t_textB p.c (decide (p.spot=7))).w=[91] then ⟨[91],1,none⟩ else pick z3 t_text t_textB p.c (decide (p.spot=7)),pick z3 t_end t_endB p.c (decide (p.spot=8))],?_,?_,Wcode.none,?_,?_⟩
   ·unfold Pk.made L2.mk
    rw [if_neg (by lia),if_neg (by lia),if_neg (by lia),if_pos hcd]; rfl
   ·unfold Pk.made L2.mk
    rw [if_neg (by lia),if_neg (by lia),if_neg (by lia),if_pos hcd]; rfl
   ·split
    ·exact List.mem_cons_self
    ·exact List.mem_cons_of_mem _ hx
   ·rw [owns_cons,owns_cons,owns_nil,oapp_nil]
    generalize oapp _ _=y
    cases y <;> rfl
  ·have e1:∀ z:PV,(if p.spot=6 then PV.list [] else if p.spot=9 then .dict0 else z)=(if p.spot=6 then PV.list [] else if p.spot=9 then .dict0 else z):=fun _=>rfl
   refine ⟨if p.spot=6 then .list [] else if p.spot=9 then .dict0 else .list (p.first.v::p.moreV),if p.spot=6 then none else if p.spot=9 then none else (allS p.os).map fun bs=>[91]++(glue [32] bs++[93,32]),pick z3 t_text t_textB p.c (decide (p.spot=7)),
    (lrOf p.spot p.a).1::((p.first.part::p.more)++own9 p.spot [(lrOf p.spot p.a).2,pick z3 t_text t_textB p.c (decide (p.spot=7)),pick z3 t_end t_endB p.c (decide (p.spot=8))]),?_,?_,?_,?_,?_⟩
   ·unfold Pk.made L2.mk
    rw [if_neg (by lia),if_neg (by lia),if_neg (by lia),if_neg hcd,hb.1]
    unfold own9
    generalize lrOf p.spot p.a=lr
    generalize pick z3 t_text t_textB p.c (decide (p.spot=7))=tx
    generalize pick z3 t_end t_endB p.c (decide (p.spot=8))=e
    generalize pick z3 t_tag t_tagB p.a (decide (p.spot=3))=tg
    generalize (pick z5 t_word t_wordB p.b (decide (p.spot=4) && decide (p.star=0)))=q
    show [if 0<p.star then (⟨[42],-1,some [42]⟩:Part) else tg,sp,q.part,sp]++[lr.1]++(if p.spot=9 then p.first.part::p.more++[noOwn] else p.first.part::p.more)++[lr.2,tx]++[e]=_
    generalize (if 0<p.star then (⟨[42],-1,some [42]⟩:Part) else tg)=g0
    split <;> simp
   ·rw [← hb.2]
    unfold Pk.made L2.mk
    rw [if_neg (by lia),if_neg (by lia),if_neg (by lia),if_neg hcd]; rfl
   ·by_cases h6:p.spot=6
    ·rw [if_pos h6,if_pos h6]; exact Wcode.nil
    ·rw [if_neg h6,if_neg h6]
     by_cases h9:p.spot=9
     ·rw [if_pos h9,if_pos h9]; exact Wcode.dict
     ·rw [if_neg h9,if_neg h9]; exact Wcode.cons (p.ws hp hf) (by have:=moreV_len p; lia)
   ·exact List.mem_cons_of_mem _ hx
   ·rw [owns_cons,owns_app,more_owns,own9_o,owns_cons,owns_cons,owns_cons,owns_nil,oapp_nil]
    by_cases h6:p.spot=6
    ·rw [if_pos h6,if_neg (by lia)]
     rcases hlr.1 h6 with h | h
     ·rw [h]; rfl
     ·rw [h]; simp only [none_oapp,oapp_none]
    ·rw [if_neg h6,(hlr.2 h6).1,(hlr.2 h6).2]
     by_cases h9:p.spot=9
     ·rw [if_pos h9,if_pos h9]; simp only [none_oapp,oapp_none]
     ·rw [if_neg h9,if_neg h9]
      generalize oapp (pick z3 t_text t_textB p.c (decide (p.spot=7))).o _=y
      cases allS p.os <;> cases y <;> simp [oapp]
 obtain ⟨hw1,hw2,hw3⟩:=word_w hq
 obtain ⟨hx1,hx2⟩:=text_w htx
 rw [handed_eq hm2,hm1,owns_cons,owns_cons,owns_cons,owns_cons,hrest,he]
 unfold wrD
 rw [if_neg (by lia)]
 generalize pick z5 t_word t_wordB p.b (decide (p.spot=4) && decide (p.star=0))=q at *
 generalize pick z3 t_tag t_tagB p.a (decide (p.spot=3))=g at *
 by_cases h8:p.spot=8
 ·rw [if_pos h8,if_pos h8]
  refine (wl_stat_len _ rfl).trans ?_
  simp only [none_oapp,oapp_none]; rfl
 ·rw [if_neg h8,if_neg h8]
  show _=ofW (oapp _ (oapp (some [32]) (oapp q.o (oapp (some [32]) _))))
  by_cases hs:0<p.star
  ·rw [if_pos hs,if_pos hs]
   have:=wl_stat [] q.x code tx.w q.o.isSome true oc tx.o (by simp) hw3 hw1 (fun h=>absurd rfl h) (fun _=>rfl) hcode hx1 hx2
   rw [this]
   exact congrArg ofW (fin3 (ot:=some [42]) (bt:=true) (head:=[42]) rfl hw2).symm
  ·rw [if_neg hs,if_neg hs]
   have hne:=tag_ne g hg
   have ht:=tag_w (List.mem_cons_of_mem (⟨[],0,none⟩:Part) hg)
   have:=wl_stat g.w q.x code tx.w q.o.isSome g.o.isSome oc tx.o (tagL g (List.mem_cons_of_mem _ hg)) hw3 hw1 (fun _=>ht.1) (fun h=>absurd h hne) hcode hx1 hx2
   rw [this,fin3 (bt:=g.o.isSome) (head:=g.w) ht.2 hw2,if_neg hne]
theorem writes {p:Pk} (hp:p.Ok):wrD p p.handed=ofW (ownsOf p.made.1):=by
 rcases hp.kind with h | h | h | h
 ·exact write0 hp h
 ·exact write1 h
 ·exact write2 hp h
 ·exact write3 hp h
theorem told_w (ps:List Part):told (ofW (ownsOf ps))=.ok (canonV ps):=by
 unfold canonV
 cases ownsOf ps <;> rfl
end L2
end Mine
namespace Mine
namespace L2
noncomputable def Eqv (n:Nat) (v:PV):Prop:=eqD n v v=some true
theorem eqs_self {n:Nat}:∀ {l:List PV},(∀ v∈l,Eqv n v)→eqDs n l l=some true
 | [],_=>rfl
 | a::r,h=>by
  have h1:eqD n a a=some true:=h a List.mem_cons_self
  have h2:=eqs_self (l:=r) fun v hv=>h v (List.mem_cons_of_mem _ hv)
  show and2 (eqD n a a) (eqDs n _ _)=_
  rw [h1,h2]; rfl
theorem eqv_tuple {n:Nat} {l:List PV} (h:∀ v∈l,Eqv n v):Eqv (n+1) (.tuple l):=by
 exact eqs_self h
theorem eqv_list {n:Nat} {l:List PV} (h:∀ v∈l,Eqv n v):Eqv (n+1) (.list l):=by
 show (if _ then _ else _)=_
 rw [if_pos (beq_self_eq_true _)]; exact eqs_self h
theorem eqv_bytes (n:Nat) (b:List Int):Eqv n (.bytes b):=by
 unfold Eqv
 have:eqD n (.bytes b) (.bytes b)=some (b == b):=by cases n <;> rfl
 rw [this,beq_self_eq_true]
theorem eqv_str (n:Nat) (b:List Nat):Eqv n (.str b):=by
 unfold Eqv
 have:eqD n (.str b) (.str b)=some (b == b):=by cases n <;> rfl
 rw [this,beq_self_eq_true]
theorem eqv_int (n:Nat) (b:Int):Eqv n (.int b):=by
 unfold Eqv
 have:eqD n (.int b) (.int b)=some (b == b):=by cases n <;> rfl
 rw [this,beq_self_eq_true]
theorem eqv_none (n:Nat):Eqv n .none:=by cases n <;> rfl
theorem eqv_dict (n:Nat):Eqv n .dict0:=by cases n <;> rfl
noncomputable def ckE (n:Nat) (v:PV):Bool:=eqD n v v == some true
theorem ckE_so {n:Nat} {v:PV} (h:ckE n v=true):Eqv n v:=by unfold ckE at h; exact eq_of_beq h
theorem e_leaves:(leaves.all fun l=>([0,1,2]:List Nat).all fun k=>ckE 9 (nest k l.v) && ckE 10 (nest k l.v))=true:=by decide +kernel
theorem e_first:((t_first++t_firstB).all fun l=>ckE 9 l.v && ckE 10 l.v)=true:=by decide +kernel
theorem vals_eqv {p:Pk} (hp:p.Ok):∀ v∈p.vals,Eqv 9 v∧Eqv 10 v:=by
 have hfin:p.first∈t_first++t_firstB:=pick_in _ _ _ _ _ (by decide) (by decide)
 have h1:Eqv 9 p.first.v∧Eqv 10 p.first.v:=by
  have:=List.all_eq_true.1 e_first _ hfin
  rw [Bool.and_eq_true] at this
  exact ⟨ckE_so this.1,ckE_so this.2⟩
 have h2:Eqv 9 (nest p.k p.leaf.v)∧Eqv 10 (nest p.k p.leaf.v):=by
  have:=List.all_eq_true.1 (List.all_eq_true.1 e_leaves _ p.leaf_in) _ hp.kmem
  rw [Bool.and_eq_true] at this
  exact ⟨ckE_so this.1,ckE_so this.2⟩
 by_cases h:0<p.size∨1<p.kind
 ·rw [(p.body_two h).2]
  intro v hv
  rcases List.mem_cons.1 hv with e | e
  ·rw [e]; exact h1
  ·unfold Pk.moreV at e
   split at e
   ·rw [List.mem_singleton.1 e]; exact h2
   ·cases e
 ·rw [(p.body_none (by lia) (by lia)).2]
  intro v hv; cases hv
theorem made_eqv {p:Pk} (hp:p.Ok):Eqv 12 p.made.2.1∧Eqv 11 p.made.2.2:=by
 have hv:=vals_eqv hp
 have l10:Eqv 10 (.list p.vals):=eqv_list fun v h=>(hv v h).1
 have l11:Eqv 11 (.list p.vals):=eqv_list fun v h=>(hv v h).2
 have hh:Eqv 11 (if p.spot=9 then PV.dict0 else .list p.vals):=by
  split
  ·exact eqv_dict _
  ·exact l11
 have hh6:Eqv 11 (if p.spot=6 then PV.list [] else if p.spot=9 then PV.dict0 else .list p.vals):=by
  split
  ·exact eqv_list fun v h=>by cases h
  ·exact hh
 have two:∀ {n:Nat} {a b:PV},Eqv n a→Eqv n b→Eqv (n+1) (.tuple [a,b]):=fun ha hb=>eqv_tuple fun v h=>by
  simp only [List.mem_cons,List.not_mem_nil,or_false] at h
  rcases h with e | e <;> rw [e] <;> assumption
 have three:∀ {n:Nat} {a b c:PV},Eqv n a→Eqv n b→Eqv n c→Eqv (n+1) (.tuple [a,b,c]):=fun ha hb hc=>eqv_tuple fun v h=>by
  simp only [List.mem_cons,List.not_mem_nil,or_false] at h
  rcases h with e | e | e <;> rw [e] <;> assumption
 have five:∀ {n:Nat} {a b c d f:PV},Eqv n a→Eqv n b→Eqv n c→Eqv n d→Eqv n f→Eqv (n+1) (.tuple [a,b,c,d,f]):=fun ha hb hc hd hf=>eqv_tuple fun v h=>by
  simp only [List.mem_cons,List.not_mem_nil,or_false] at h
  rcases h with e | e | e | e | e <;> rw [e] <;> assumption
 unfold Pk.made L2.mk
 simp only
 split
 ·exact ⟨three (eqv_bytes _ _) (eqv_bytes _ _) hh,three (eqv_bytes _ _) (eqv_bytes _ _) l10⟩
 ·split
  ·exact ⟨two (eqv_str _ _) (eqv_bytes _ _),two (eqv_str _ _) (eqv_bytes _ _)⟩
  ·split
   ·exact ⟨two (eqv_str _ _) hh,two (eqv_str _ _) l10⟩
   ·split
    ·exact ⟨five (eqv_str _ _) (eqv_bytes _ _) (eqv_bytes _ _) (eqv_none _) (eqv_bytes _ _),five (eqv_str _ _) (eqv_bytes _ _) (eqv_bytes _ _) (eqv_none _) (eqv_bytes _ _)⟩
    ·exact ⟨five (eqv_str _ _) (eqv_bytes _ _) (eqv_bytes _ _) hh6 (eqv_bytes _ _),five (eqv_str _ _) (eqv_bytes _ _) (eqv_bytes _ _) l10 (eqv_bytes _ _)⟩
noncomputable def ckN (v:PV):Bool:=match v with
 | .tuple (.str s::rest)=>if s=[110,117,109,98,101,114] then (match rest with | .int _::_=>true | _=>false) else true
 | _=>false
theorem ckN_so {v:PV} (h:ckN v=true):NumOk v:=by
 unfold ckN at h
 split at h
 ·rename_i s rest
  refine ⟨s,rest,rfl,fun hs=>?_⟩
  rw [if_pos hs] at h
  split at h
  ·exact ⟨_,_,rfl⟩
  ·cases h
 ·cases h
theorem n_leaves:(leaves.all fun l=>decide (0≤l.a) || ([0,1,2]:List Nat).all fun k=>ckN (nest k l.v))=true:=by decide +kernel
theorem n_first:((t_first++t_firstB).all fun l=>ckN l.v)=true:=by decide +kernel
theorem edge_neg:∀ {ps:List Part} {n:Int},0≤n→edgeOf ps n<0→∀ q∈ps,q.a<0
 | [],n,_,_=>fun q h=>by cases h
 | p::r,n,hn,h=>by
  intro q hq
  rw [edgeOf] at h
  by_cases ha:0≤p.a
  ·rw [if_pos ha] at h; lia
  ·rw [if_neg ha] at h
   rcases List.mem_cons.1 hq with e | e
   ·rw [e]; lia
   ·exact edge_neg (by lia) h q e
theorem vals_num {p:Pk} (hp:p.Ok) (hl:1<p.size→p.leaf.a<0):∀ v∈p.vals,NumOk v:=by
 have hfin:p.first∈t_first++t_firstB:=pick_in _ _ _ _ _ (by decide) (by decide)
 have h1:NumOk p.first.v:=ckN_so (List.all_eq_true.1 n_first _ hfin)
 by_cases h:0<p.size∨1<p.kind
 ·rw [(p.body_two h).2]
  intro v hv
  rcases List.mem_cons.1 hv with e | e
  ·rw [e]; exact h1
  ·unfold Pk.moreV at e
   split at e
   ·rename_i hs
    rw [List.mem_singleton.1 e]
    have:=List.all_eq_true.1 n_leaves _ p.leaf_in
    rw [Bool.or_eq_true,decide_eq_true_eq] at this
    rcases this with h3 | h3
    ·have:=hl hs; lia
    ·exact ckN_so (List.all_eq_true.1 h3 _ hp.kmem)
   ·cases e
 ·rw [(p.body_none (by lia) (by lia)).2]
  intro v hv; cases hv
theorem made_num {p:Pk} (hp:p.Ok) (he:edgeOf p.made.1 0<0) (hk:p.kind % 2=0):∃ pre vs,p.made.2.2=.tuple (pre++[.list vs])∧∀ v∈vs,NumOk v:=by
 have hneg:=edge_neg (by lia) he
 have hle:p.leaf.part∈p.made.1∨¬ 1<p.size:=by
  by_cases hs:1<p.size
  ·left
   have hbody:p.leaf.part∈p.body:=by
    rw [(p.body_two (Or.inl (by lia))).1]
    unfold Pk.more
    rw [if_pos hs]
    simp
   have hb2:p.leaf.part∈(if p.spot=9 then p.body++[noOwn] else p.body):=by
    split
    ·exact List.mem_append_left _ hbody
    ·exact hbody
   rcases hp.kind with h | h | h | h
   ·unfold Pk.made L2.mk
    rw [if_pos h]
    refine List.mem_append_left _ (List.mem_append_right _ ?_)
    split
    ·exact List.mem_append_right _ hb2
    ·exact hb2
   ·lia
   ·unfold Pk.made L2.mk
    rw [if_neg (by lia),if_neg (by lia),if_pos h]
    exact List.mem_append_left _ (List.mem_append_right _ hb2)
   ·lia
  ·right; exact hs
 have hv:=vals_num hp (fun hs=>by
  rcases hle with h | h
  ·exact hneg _ h
  ·exact absurd hs h)
 rcases hp.kind with h | h | h | h
 ·refine ⟨[.bytes (if p.spot=6 then (⟨[],0,none⟩:Part) else pick z3 t_tag t_tagB p.a (decide (p.spot=3))).w,.bytes (pick z5 t_name t_nameB p.b (decide (p.spot=4))).x],p.vals,?_,hv⟩
  unfold Pk.made L2.mk
  rw [if_pos h]; rfl
 ·lia
 ·refine ⟨[.str [100,97,116,97]],p.vals,?_,hv⟩
  unfold Pk.made L2.mk
  rw [if_neg (by lia),if_neg (by lia),if_pos h]; rfl
 ·lia
theorem law_short (d:Nat) (xs:List Int) (h:xs.length<14):den T G 3000 (d+1) 36 [.list (xs.map PV.int)]=.ok (.bool true):=by
 rw [den_code (T:=T) (f:=36) (vs:=vf_law) (k:=1) (body:=cf_law) rfl rfl]
 show outS (evSs _ _ _ cf_law [.val (.list (xs.map PV.int)),.unset,.unset,.unset,.unset,.unset,.unset,.unset,.unset,.unset,.unset,.unset,.unset,.unset,.unset,.unset,.unset,.unset,.unset,.unset,.unset])=_
 have h2:decide (((xs.map PV.int).length:Int)<14)=true:=by rw [decide_eq_true_eq,List.length_map]; lia
 rw [cf_law,run_ret ((if_yes (b_of (by simp only [xlit,xneg,xvar,xglob,xsf,xtup,xlst,xdict,xbin,xcmp,xcmp2,xand,xor,xnot,xite,xidx,xslc,xcall,xlen,xisin,xisin1,xmkB,xtyp,xjoin,xcomp,xg0,xg1,l_l,b_ok,c_lti,h2]))).trans (run_ret (to_ret (v:=.bool true) rfl)))]
 rfl
theorem law_all (xs:List Int) (hlim:xs.length≤lim):den T G 3000 20 36 [.list (xs.map PV.int)]=.ok (.bool true):=by
 by_cases h14:xs.length<14
 ·exact law_short 19 xs h14
 ·let x:Nat→Int:=fun i=>xs[i]?.getD 0
  have hp:=pkOf_ok x
  obtain ⟨dd,hd⟩:=hp.dep
  have hm:=made_ok (pkOf x) hp
  have hl:=wires_len hm.1
  have hw:=writes hp
  have he:=made_eqv hp
  have hfu:∃ e,e+2 * dd+5=16+2:=by
   have:=hd.mem
   simp only [List.mem_cons,List.not_mem_nil,or_false] at this
   exact ⟨13 - 2 * dd,by lia⟩
  obtain ⟨e,hfu⟩:=hfu
  have hR:=read_ok hp hd e
  rw [hfu] at hR
  refine law_true (W:=3000) 16 xs (by lia) x (fun i hi=>?_) hlim (by lia) (fun b hb=>by have:=owns_len hm.1 b hb; lia) (by lia) _ rfl ?_ he.1
   (fun l=>if (pkOf x).kind=0 then den T G 3000 (16+2) 28 [.bytes l,.int (pkOf x).depth] else den T G 3000 (16+2) 26 [.bytes l,.int (pkOf x).depth]) (fun l _=>rfl) hR
   (fun _=>?_) (fun h1 h2=>made_num hp h1 h2)
  ·have:i<xs.length:=by lia
   show xs[i]?=some (xs[i]?.getD 0)
   rw [List.getElem?_eq_getElem this]; rfl
  ·rw [← told_w,← hw]; rfl
  ·exact eqv_tuple fun v hv=>by
    simp only [List.mem_cons,List.not_mem_nil,or_false] at hv
    rcases hv with e | e <;> rw [e]
    ·exact he.2
    ·exact eqv_int _ _
end L2
end Mine
namespace Mine
open PySem
theorem digR_same (n:Nat):∀ k k':Nat,n<k→n<k'→digR k n=digR k' n:=by
 induction n using Nat.strongRecOn with
 | ind n ih =>
  intro k k' h h'
  obtain ⟨k,rfl⟩:∃ j,k=j+1:=⟨k - 1,by lia⟩
  obtain ⟨k',rfl⟩:∃ j,k'=j+1:=⟨k' - 1,by lia⟩
  rw [digR,digR]
  by_cases h0:n=0
  ·rw [if_pos h0,if_pos h0]
  ·rw [if_neg h0,if_neg h0]
   have h1:n / 10<n:=Nat.div_lt_self (by lia) (by lia)
   rw [ih (n / 10) h1 k k' (by lia) (by lia)]
noncomputable def digs (n:Nat):List Int:=digR (n+1) n
theorem digs_zero:digs 0=[]:=rfl
theorem digs_step {n:Nat} (h:0<n):digs n=((48+n % 10:Nat):Int)::digs (n / 10):=by
 unfold digs
 rw [digR,if_neg (by lia)]
 have h1:n / 10<n:=Nat.div_lt_self (by lia) (by lia)
 rw [digR_same (n / 10) n (n / 10+1) h1 (by lia)]
theorem digs_range (n:Nat):∀ x∈digs n,0≤x∧x<256:=by
 induction n using Nat.strongRecOn with
 | ind n ih =>
  by_cases h0:n=0
  ·subst h0; intro x hx; cases hx
  ·rw [digs_step (by lia)]
   intro x hx
   rcases List.mem_cons.1 hx with e | e
   ·have:=Nat.mod_lt n (show 10 > 0 by lia); rw [e]; lia
   ·exact ih (n / 10) (Nat.div_lt_self (by lia) (by lia)) x e
theorem digs_len:∀ (j n:Nat),n<10 ^ j→(digs n).length≤j
 | 0,n,h=>by
  have:n=0:=by simpa using h
  subst this; simp [digs_zero]
 | j+1,n,h=>by
  by_cases h0:n=0
  ·subst h0; simp [digs_zero]
  ·rw [digs_step (by lia),List.length_cons]
   have:=digs_len j (n / 10) (by rw [Nat.div_lt_iff_lt_mul (by lia)]; rw [Nat.pow_succ] at h; exact h)
   lia
theorem decD_digs {n:Nat} (h:0<n):decD n=(digs n).reverse:=by unfold decD digs; rw [if_neg (by lia)]
end Mine
namespace Mine
open PySem PySem.W PyProof.Rows
noncomputable def decNames : List (Str × NameKind) := [(Str.ofString "n",.local),(Str.ofString "digits",.cell),(Str.ofString "bytes",.globalImplicit),(Str.ofString "range",.globalImplicit),(Str.ofString "len",.globalImplicit)]
noncomputable def decComp : Scope := { kind := .function,names := [(Str.ofString ".0",.local),(Str.ofString "i",.local),(Str.ofString "digits",.free)],isGenerator := false,isCoroutine := false,more := [] }
noncomputable def decTest (p : Nat → Pos) : Expr := .Compare (.Name "n" (p 10)) [.Gt] [.Constant (.int 0) 0 (p 11)] (p 12)
noncomputable def decElt (p : Nat → Pos) : Expr := .BinOp (.Constant (.int 48) 0 (p 15)) .Add (.BinOp (.Name "n" (p 16)) .Mod (.Constant (.int 10) 0 (p 17)) (p 18)) (p 19)
noncomputable def decDiv (p : Nat → Pos) : Expr := .BinOp (.Name "n" (p 23)) .FloorDiv (.Constant (.int 10) 0 (p 24)) (p 25)
noncomputable def decLen (p : Nat → Pos) : Expr := .BinOp (.Call (.Name "len" (p 34)) [.Name "digits" (p 35)] [] (p 36)) .Sub (.Constant (.int 1) 0 (p 37)) (p 38)
noncomputable def decRange (p : Nat → Pos) : Expr := .Call (.Name "range" (p 33)) [decLen p,.UnaryOp .USub (.Constant (.int 1) 0 (p 39)) (p 40),.UnaryOp .USub (.Constant (.int 1) 0 (p 41)) (p 42)] [] (p 43)
noncomputable def decList (p : Nat → Pos) : Expr := .ListComp (.Subscript (.Name "digits" (p 29)) (.Name "i" (p 30)) (p 31)) [⟨.Name "i" (p 32),decRange p,[],0⟩] decComp (p 44)
noncomputable def decApp (p : Nat → Pos) : Stmt := .Expr (.Call (.Attribute (.Name "digits" (p 13)) "append" (p 14)) [decElt p] [] (p 20)) (p 21)
noncomputable def decBody (p:Nat→Pos):List Stmt:=[
 .If (.Compare (.Name "n" (p 1)) [.Eq] [.Constant (.int 0) 0 (p 2)] (p 3)) [.Return (some (.Constant (.bytes [48]) 0 (p 4))) (p 5)] [] (p 6),
 .Assign [.Name "digits" (p 7)] (.List [] (p 8)) (p 9),
 .While (decTest p) [decApp p,.Assign [.Name "n" (p 22)] (decDiv p) (p 26)] [] (p 27),
 .Return (some (.Call (.Name "bytes" (p 28)) [decList p] [] (p 45))) (p 46)]
structure DecOk (Γ:Ct):Prop where
 there : ∃ a o params scope pm code doc p,Γ.mg (Str.ofString "_decimal") = some (.ref a) ∧ Γ.Base.get? a = some o ∧ o.data = .func (Calls.docDef (Str.ofString "_decimal") params (decBody p) scope pm code doc) ∧ Γ.Base.CodeRec code (Str.ofString "_decimal") ∧
  (∀ v : Value,bindArgs (Calls.docDef (Str.ofString "_decimal") params (decBody p) scope pm code doc) ⟨[v],[]⟩ = pure [(Str.ofString "n",v)]) ∧ scope.isCoroutine = false ∧ scope.isGenerator = false ∧ scope.kind = .function ∧ scope.names = decNames ∧ ((p 14).endLine == (p 20).line) = true
theorem cell_ups {h h':Heap} {c:Addr} {v:Option Value} (x:h.IsCell c v) (u:h.UpToSlots h'):h'.IsCell c v:=by
 obtain ⟨o,ho,hd⟩:=x
 obtain ⟨sl,q⟩:=u c o ho fun vs q=>by rw [hd] at q; cases q
 exact ⟨_,q,hd⟩
theorem own_same {h h':Heap} {a C:Addr} {ws:List Value} (x:OwnAt h a ws) (hs:Heap.SameBut C h h') (hne:a≠C):OwnAt h' a ws:=by
 obtain ⟨o,n,ho,hc,hdn,hd⟩:=x
 exact ⟨o,n,(hs.2 a hne).trans ho,hc,hdn,hd⟩
section
variable {prog:Program} {w:World} {Γ:Ct} {B:Bl}
theorem st_turn {d:Nat} (hB:B.Ok d) (hfn:B.fenv.frame=some B.env.locals) {H:Heap} {ρ:List Slot} {s:Shared} (hno:∀ i l,getS ρ i≠.own l) (hs:St Γ B H ρ s) {C:Addr} (hC:H.get? C=none) (hlt:B.env.locals<C)
  {h':Heap} (hsb:Heap.SameBut C s.heap h'):St Γ B H ρ { s with heap:=h' }:=by
 obtain ⟨m,oa,hn,hl,hN,hsl,hdd⟩:=hs.loc
 have hne:B.env.locals≠C:=Nat.ne_of_lt hlt
 refine ⟨hs.base,fun b o e=>(hsb.2 b (fun q=>by rw [q,hC] at e; cases e)).trans (hs.stays b o e),?_,m,oa,hn.sameBut hsb hne,hl,hN,fun i x hx=>?_,hdd⟩
 ·have:=hs.frames
  have low:∀ v∈B.fenv::B.outer,∀ L,v.frame=some L→L≠C:=fun v hv L hL=>by
   rcases List.mem_cons.mp hv with rfl | hv
   ·rw [hfn] at hL; obtain rfl:=Option.some.inj hL; exact hne
   ·exact Nat.ne_of_lt (Nat.lt_trans (Nat.lt_of_lt_of_le (hB.low v hv L hL) hN) hlt)
  revert this low
  generalize B.fenv::B.outer=l
  intro this low
  induction l with
  | nil=>trivial
  | cons v r ih =>
   obtain ⟨hk',⟨L',o₁,hf,hnn,ho₁,hd₁⟩,hr⟩:=this
   exact ⟨hk',⟨L',o₁,hf,hnn,(hsb.2 L' (low v (.head _) L' hf)).trans ho₁,hd₁⟩,ih hr fun u hu=>low u (.tail _ hu)⟩
 ·have:=hsl i x hx
  revert this
  cases hg:getS ρ i with
  | unset=>exact fun h=>h
  | val p=>exact fun h=>h
  | own l=>exact absurd hg (hno i l)
theorem no_own (p:PV):∀ i l,getS [.val p] i≠.own l:=by
 intro i l
 cases i with
 | zero=>intro h; cases h
 | succ i=>intro h; cases i <;> cases h
noncomputable def DSt (Γ:Ct) (B:Bl) (H₀:Heap) (h₀:Shared) (c:Addr) (n:Nat) (ds:List Int) (s:Shared):Prop :=
 ∃ H D ws,ExtS B.N₀ H₀ h₀ H s∧St Γ B H [.val (.int n)] s∧s.heap.IsCell c (some (.ref D))∧H.get? c=none∧OwnAt s.heap D ws∧H.get? D=none∧B.env.locals<D∧B.env.locals<c∧c≠D∧RepL H (ds.map PV.int) ws
structure DB (Γ:Ct) (B:Bl) (c:Addr):Prop where
 names:B.env.scope.names=decNames
 vs : B.vs = [Str.ofString "n"]
 cells : B.env.cells.lookup (Str.ofString "digits") = some c
 fr:B.fenv.frame=some B.env.locals
 clos : closureFor decComp B.env = pure [(Str.ofString "digits",c)]
theorem DB.kind {c:Addr} (x:DB Γ B c) {n:Str} {k:NameKind} (h:decNames.lookup n=some k):B.env.kindOf n=some k:=by
 show B.env.scope.names.lookup n=some k; rw [x.names]; exact h
theorem DB.gd {c : Addr} (x : DB Γ B c) : Gd Γ ⟨decNames,[Str.ofString "n"],Γ.fs,Γ.gs⟩ B := ⟨x.names.symm,x.vs.symm,rfl,rfl⟩
theorem dec_turn {d:Nat} (hΓ:Γ.Ok) (hfn:∀ (f:Nat) (x:Str),Γ.fs[f]?=some x→FnAt Γ x) (hB:B.Ok d) {c:Addr} (hD:DB Γ B c) (p:Nat→Pos) (hln:((p 14).endLine == (p 20).line)=true)
  {H₀:Heap} {h₀:Shared} {n:Nat} {ds:List Int} {s:Shared} (hlen:ds.length<1000) {E:Value→Shared→Prop} {Q:Flow→Shared→Prop} (x:DSt Γ B H₀ h₀ c n ds s) (hQ:∀ s',DSt Γ B H₀ h₀ c (n / 10) (ds++[((48+n % 10:Nat):Int)]) s'→Q .next s') :
  wpAny (model prog w) B.A (execs [decApp p,.Assign [.Name "n" (p 22)] (decDiv p) (p 26)] B.env) Q E s := by
 obtain ⟨H,D,ws,ex,hs,hcell,hcH,hown,hDH,hLD,hLc,hcD,hrl⟩:=x
 have hF:∀ f x,Γ.fs[f]?=some x→FnAt Γ x∧∀ args,Con prog w Γ d x args ((fun _ _=>Res.stuck:Nat→List PV→Res PV) f args):=fun f x hx=>⟨hfn f x hx,fun args a A H l s ws Q E _ _ _ hp=>hp.elim⟩
 have helt:=(chk_e hΓ hF (.bin .add (.lit (.int 48)) (.bin .mod (.var 0) (.lit (.int 10)))) hB hD.gd (e:=decElt p) rfl).1
 have hdiv:=(chk_e hΓ hF (.bin .fdiv (.var 0) (.lit (.int 10))) hB hD.gd (e:=decDiv p) rfl).1
 have hkd : B.env.kindOf (Str.ofString "digits") = some .cell := hD.kind rfl
 have hkn : B.env.kindOf (Str.ofString "n") = some .local := hD.kind rfl
 have hvn : B.vs[0]? = some (Str.ofString "n") := by rw [hD.vs]; rfl
 refine wpAny_execs_cons ?_
 have htr:backTo (p 20) (starEach [decElt p] B.env)=[(false,eval (decElt p) B.env)]:=by rw [starEach_cons rfl]; rfl
 refine wpAny_Expr ?_ (not_interactive hB) (notComp_swaps rfl)
 refine wpAny_Call_append rfl (by rw [htr]; rfl) hln htr ?_
 refine wpAny_Name (wpAny_loadName_cell hB.kind hkd hD.cells hcell ⟨D,ws.toArray,rfl,?_,?_⟩) rfl
 ·obtain ⟨o,k,ho,hc,hdn,hdt⟩:=hown; exact ⟨o,k,ho,hc,hdn,hdt⟩
 refine helt H _ s _ _ hs ?_
 have ev:evE (fun _ _=>Res.stuck) Γ.GV (.bin .add (.lit (.int 48)) (.bin .mod (.var 0) (.lit (.int 10)))) [.val (.int n)]=.ok (.int (48+(n:Int) % 10)):=rfl
 rw [ev]
 intro v s₁ H₁ e₁ r₁
 have hs₁:=hs.ext e₁
 have hown₁:=hown.ups e₁.ups
 have hcell₁:=cell_ups hcell e₁.ups
 have hDH₁:H₁.get? D=none:=by
  obtain ⟨o,k,ho,_,_,hdt⟩:=hown
  exact e₁.old _ o ho (fun vs q=>by rw [hdt] at q; cases q) hDH
 have hcH₁:H₁.get? c=none:=by
  obtain ⟨o,ho,hdt⟩:=hcell
  exact e₁.old _ o ho (fun vs q=>by rw [hdt] at q; cases q) hcH
 have hrl₁:=hrl.mono e₁.grow
 have hwl:ws.length=ds.length:=by rw [hrl.length,List.length_map]
 obtain ⟨o,k,ho,hc,hdn,hdt⟩:=id hown₁
 refine list_append_plainL (its:=ws.toArray) ⟨o,k,ho,hc,hdn,hdt⟩ (fun h' hpl hsb=>?_) (by rw [List.size_toArray,hwl]; exact lim_line (by unfold lim; lia))
 have keep:∀ b o,s₁.heap.get? b=some o→b≠D→h'.get? b=some o:=fun b o e hb=>(hsb.2 b hb).trans e
 have hs₂:St Γ B H₁ [.val (.int n)] { s₁ with heap:=h' }:=st_turn hB hD.fr (no_own _) hs₁ hDH₁ hLD hsb
 have hown₂:OwnAt h' D (ws++[v]):=by
  obtain ⟨o',n',a1,a2,a3,a4⟩:=hpl
  exact ⟨o',n',a1,a2,a3,by rw [a4]; simp⟩
 have hcell₂:h'.IsCell c (some (.ref D)):=hcell₁.sameBut hsb hcD
 have hN:B.N₀≤B.env.locals:=by obtain ⟨_,_,_,_,hN,_⟩:=hs.loc; exact hN
 have ex₂:ExtS B.N₀ H₀ h₀ H₁ { s₁ with heap:=h' }:=(ex.trans e₁.toS).trans ⟨stays_refl _,fun _ _ _ _ _ e=>e,hs₂.stays,fun b o hb e _=>⟨o.slots,keep b o e (fun q=>by subst q; exact absurd (Nat.lt_of_lt_of_le hb hN) (Nat.not_lt.mpr (Nat.le_of_lt hLD)))⟩,rfl,rfl⟩
 show wpAny _ _ (execs [.Assign [.Name "n" (p 22)] (decDiv p) (p 26)] B.env) _ _ _
 refine wpAny_execs_cons ?_
 refine wpAny_Assign_Name (hdiv H₁ _ _ _ _ hs₂ ?_) (notComp_swaps rfl)
 have ev2:evE (fun _ _=>Res.stuck) Γ.GV (.bin .fdiv (.var 0) (.lit (.int 10))) [.val (.int n)]=.ok (.int ((n:Int) / 10)):=rfl
 rw [ev2]
 intro v₂ s₃ H₃ e₃ r₃
 have hs₃:=hs₂.ext e₃
 refine store_var2 hB hs₃ hvn hkn r₃ fun s₄ hs₄ ex₄ hsb₄=>?_
 show wpAny _ _ (execs [] _) _ _ _
 refine wpAny_execs_nil (hQ s₄ ⟨H₃,D,ws++[v],(ex₂.trans e₃.toS).trans ex₄,?_,(cell_ups hcell₂ e₃.ups).sameBut hsb₄ (Nat.ne_of_gt hLc),?_,own_same (hown₂.ups e₃.ups) hsb₄ (Nat.ne_of_gt hLD),?_,hLD,hLc,hcD,?_⟩)
 ·have:((n / 10:Nat):Int)=(n:Int) / 10:=by lia
  rw [this]; exact hs₄
 ·obtain ⟨o,ho,hdt⟩:=hcell₂
  exact e₃.old _ o ho (fun vs q=>by rw [hdt] at q; cases q) hcH₁
 ·obtain ⟨o,k,ho,_,_,hdt⟩:=hown₂
  exact e₃.old _ o ho (fun vs q=>by rw [hdt] at q; cases q) hDH₁
 ·rw [List.map_append]
  refine RepL.append (hrl₁.mono e₃.grow) (RepL.one ?_)
  have:((48+n % 10:Nat):Int)=48+(n:Int) % 10:=by lia
  rw [this]; exact r₁.mono e₃.grow
theorem dec_while {d:Nat} (hΓ:Γ.Ok) (hfn:∀ (f:Nat) (x:Str),Γ.fs[f]?=some x→FnAt Γ x) (hB:B.Ok d) {c:Addr} (hD:DB Γ B c) (p:Nat→Pos) (hln:((p 14).endLine == (p 20).line)=true)
  {H₀:Heap} {h₀:Shared} {n:Nat} {ds all:List Int} {s:Shared} (hall:ds++digs n=all) (hlen:all.length<1000) {E:Value→Shared→Prop} {Q:Flow→Shared→Prop} (x:DSt Γ B H₀ h₀ c n ds s) (hQ:∀ s',DSt Γ B H₀ h₀ c 0 all s'→Q .next s') :
  wpAny (model prog w) B.A (exec (.While (decTest p) [decApp p,.Assign [.Name "n" (p 22)] (decDiv p) (p 26)] [] (p 27)) B.env) Q E s := by
 have hF:∀ f x,Γ.fs[f]?=some x→FnAt Γ x∧∀ args,Con prog w Γ d x args ((fun _ _=>Res.stuck:Nat→List PV→Res PV) f args):=fun f x hx=>⟨hfn f x hx,fun args a A H l s ws Q E _ _ _ hp=>hp.elim⟩
 have htest:=(chk_e hΓ hF (.cmp .gt (.var 0) (.lit (.int 0))) hB hD.gd (e:=decTest p) rfl).2
 refine wpAny_While ?_
 refine codeAny_whileLoop (fun k s'=>∃ ds',ds'++digs k=all∧DSt Γ B H₀ h₀ c k ds' s') ?_ n ⟨ds,hall,x⟩
 rintro k s' ⟨ds',hall',x'⟩
 obtain ⟨H,D,ws,ex,hs,hcell,hcH,hown,hDH,hLD,hLc,hcD,hrl⟩:=id x'
 refine htest H _ s' _ _ hs ?_
 have ev:(evE (fun _ _=>Res.stuck) Γ.GV (.cmp .gt (.var 0) (.lit (.int 0))) [.val (.int k)]).bind truP=.ok (decide ((0:Int)<(k:Int))):=rfl
 show Post _ _ _ _ ((evE (fun _ _=>Res.stuck) Γ.GV (.cmp .gt (.var 0) (.lit (.int 0))) [.val (.int k)]).bind truP) _ _
 rw [ev]
 intro y s₁ H₁ e₁ hy
 have x₁:DSt Γ B H₀ h₀ c k ds' s₁:=by
  refine ⟨H₁,D,ws,ex.trans e₁.toS,hs.ext e₁,cell_ups hcell e₁.ups,?_,hown.ups e₁.ups,?_,hLD,hLc,hcD,hrl.mono e₁.grow⟩
  ·obtain ⟨o,ho,hdt⟩:=hcell
   exact e₁.old _ o ho (fun vs q=>by rw [hdt] at q; cases q) hcH
  ·obtain ⟨o,k,ho,_,_,hdt⟩:=hown
   exact e₁.old _ o ho (fun vs q=>by rw [hdt] at q; cases q) hDH
 by_cases hk:k=0
 ·subst hk
  have hy':y=false:=by rw [← hy]; rfl
  subst hy'
  show wpAny _ _ (execs [] _) _ _ _
  rw [digs_zero,List.append_nil] at hall'
  subst hall'
  exact wpAny_execs_nil (hQ s₁ x₁)
 ·have hy':y=true:=by rw [← hy]; exact decide_eq_true (by lia)
  subst hy'
  show wpAny _ _ (execs _ _) _ _ _
  have hl:ds'.length<1000:=by rw [← hall',List.length_append] at hlen; lia
  refine dec_turn hΓ hfn hB hD p hln hl x₁ fun s₂ x₂=>?_
  refine ⟨k / 10,Nat.div_lt_self (by lia) (by lia),ds'++[((48+k % 10:Nat):Int)],?_,x₂⟩
  rw [List.append_assoc,← hall',digs_step (show 0<k by lia)]; rfl
end
end Mine
namespace Mine
open PySem PySem.W PyProof.Rows
theorem rangeSize_down (n:Nat):Builtin.Range.rangeSize ((n:Int) - 1) (-1) (-1)=(n:Int):=by
 unfold Builtin.Range.rangeSize
 rw [if_neg (by decide)]
 split
 ·rw [show -(-1:Int)=1 by decide,Int.ediv_one]; lia
 ·lia
theorem small_down {n:Nat} (h:n<100000):Builtin.Range.small ((n:Int) - 1) (-1) (-1)=true:=by
 unfold Builtin.Range.small
 rw [rangeSize_down]
 simp only [Builtin.Range.rangeFitsLong,Bool.and_eq_true,Bool.or_eq_true,decide_eq_true_eq,beq_iff_eq,show ¬ ((-1:Int) > 0) by decide,if_false]
 lia
theorem dec_pairs {ds:List Int}:∀ {vs ys:List Value} {ns:List Int},Paired (fun (v y:Value)=>∃ (i:Int) (t:Tok) (x:Int) (u:Tok),v=Value.int i t∧y=Value.int x u∧0≤i∧ds[i.toNat]?=some x) vs ys→vs.length=ns.length →
  (∀ (j:Nat) (v:Value),vs[j]?=some v→∃ (i:Int) (t:Tok),v=Value.int i t∧ds[i.toNat]?=ns[j]?)→IntsAre ys ns
 | _,_,ns,.nil,hl,_=>by
  cases ns with
  | nil=>exact .nil
  | cons a r=>simp at hl
 | _,_,ns,.cons (a:=a) (b:=b) (l₁:=l₁) (l₂:=l₂) hF ht,hl,h=>by
  cases ns with
  | nil=>simp at hl
  | cons x r =>
   obtain ⟨i,t,y,u,rfl,rfl,h0,hd⟩:=hF
   obtain ⟨i',t',e,hd'⟩:=h 0 _ rfl
   cases e
   rw [hd] at hd'
   simp at hd'
   subst hd'
   exact .cons y u (dec_pairs ht (by simpa using hl) fun j v hv=>by simpa using h (j+1) v (by simpa using hv))
section
variable {prog:Program} {w:World} {Γ:Ct} {B:Bl}
theorem dec_range {d:Nat} (hΓ:Γ.Ok) (hB:B.Ok d) {c:Addr} (hD:DB Γ B c) (p:Nat→Pos) {H:Heap} {ρ:List Slot} {s:Shared} (hs:St Γ B H ρ s) {D:Addr} {ws:List Value} (hcell:s.heap.IsCell c (some (.ref D))) (hown:OwnAt s.heap D ws)
  (hlen:ws.length<1000) {E:Value→Shared→Prop} {Q:Value→Shared→Prop} (hQ:∀ s₁ H₁ r t u v,Ext H s H₁ s₁→IsRange s₁.heap r ((ws.length:Int) - 1) (-1) (-1) t u v→Q (.ref r) s₁) :
  wpAny (model prog w) B.A (eval (decRange p) B.env) Q E s:=by
 have hkr : B.env.kindOf (Str.ofString "range") = some .globalImplicit := hD.kind rfl
 have hkl : B.env.kindOf (Str.ofString "len") = some .globalImplicit := hD.kind rfl
 have hkd : B.env.kindOf (Str.ofString "digits") = some .cell := hD.kind rfl
 unfold decRange
 refine Call_Name rfl (word_name hΓ hB hkr rfl (by decide) Boot.«range» hs ?_)
 have htr:backTo (p 43) (starEach [decLen p,.UnaryOp .USub (.Constant (.int 1) 0 (p 39)) (p 40),.UnaryOp .USub (.Constant (.int 1) 0 (p 41)) (p 42)] B.env)=[(false,eval (decLen p) B.env),(false,eval (.UnaryOp .USub (.Constant (.int 1) 0 (p 39)) (p 40)) B.env),(false,eval (.UnaryOp .USub (.Constant (.int 1) 0 (p 41)) (p 42)) B.env)]:=by
  rw [starEach_cons rfl,starEach_cons rfl,starEach_cons rfl]; rfl
 rw [htr]
 refine PySem.callWith_type rfl (Calls.evalArgs_plain (Calls.spliced_cons ?_))
 unfold decLen
 refine wpAny_BinOp ?_
 refine call1_b hΓ hB (id := "len") (by decide) (by kernel_rfl) hkl rfl rfl hs ?_
 refine wpAny_Name (wpAny_loadName_cell hB.kind hkd hD.cells hcell ?_) rfl
 refine len_list hown.list (by rw [List.size_toArray]; lia) ?_
 rw [show (ws.toArray.size:Int)=(ws.length:Int) by rw [List.size_toArray]]
 refine (se_lit (prog:=prog) (w:=w) (Γ:=Γ) (B:=B) (k:=0) (pos:=p 37) (c:=.int 1) (v:=.int 1) rfl (fun l e=>by cases e)) H ρ { s with toks:=_ } _ _ (hs.ext (s':={ s with toks:=_ }) (.refl hs.stays)) ?_
 intro b s₁ H₁ e₁ r₁
 have hs₁:=(hs.ext (s':={ s with toks:=_ }) (.refl hs.stays)).ext e₁
 refine so_bin (o:=.sub) rfl H₁ ρ s₁ (.int (ws.length:Int)) (.int 1) _ _ hs₁ (repInt _ _ _) r₁ _ _ ?_
 intro v₁ s₂ H₂ e₂ r₂
 have hs₂:=hs₁.ext e₂
 refine Calls.spliced_cons ?_
 refine (se_neg (prog:=prog) (w:=w) (Γ:=Γ) (B:=B) (k:=0) (p:=p 39) (pos:=p 40) (i:=1) (n:=1) rfl) H₂ ρ s₂ _ _ hs₂ ?_
 intro v₂ s₃ H₃ e₃ r₃
 have hs₃:=hs₂.ext e₃
 refine Calls.spliced_cons ?_
 refine (se_neg (prog:=prog) (w:=w) (Γ:=Γ) (B:=B) (k:=0) (p:=p 41) (pos:=p 42) (i:=1) (n:=1) rfl) H₃ ρ s₃ _ _ hs₃ ?_
 intro v₃ s₄ H₄ e₄ r₄
 refine Calls.spliced_nil ?_
 obtain ⟨t₁,rfl⟩:=rep_int r₂
 obtain ⟨t₂,rfl⟩:=rep_int r₃
 obtain ⟨t₃,rfl⟩:=rep_int r₄
 refine call_range_3 (by decide) ?_ (Or.inl (PyProof.noPylong_small (by decide)))
 have ex:Ext H s H₄ s₄:=(((Ext.trans (.refl hs.stays) e₁).trans e₂).trans e₃).trans e₄
 refine hQ _ H₄ _ t₁ t₂ t₃ (ex.trans (.push ex.stays _)) ?_
 exact IsRange.new ..
theorem dec_list {d:Nat} (hΓ:Γ.Ok) (hB:B.Ok d) {c:Addr} (hD:DB Γ B c) (p:Nat→Pos) {H:Heap} {ρ:List Slot} {s:Shared} (hs:St Γ B H ρ s) {D:Addr} {ws:List Value} {ds:List Int} (hcell:s.heap.IsCell c (some (.ref D))) (hown:OwnAt s.heap D ws)
  (hrl:RepL H (ds.map PV.int) ws) (hlen:ws.length<1000) {E:Value→Shared→Prop} {Q:Value→Shared→Prop} (hQ:∀ s₁ H₁ a ys,Ext H s H₁ s₁→s₁.heap.IsList a ys.toArray→IntsAre ys ds.reverse→Q (.ref a) s₁) :
  wpAny (model prog w) B.A (eval (decList p) B.env) Q E s:=by
 have hwl:ws.length=ds.length:=by rw [hrl.length,List.length_map]
 unfold decList
 refine wpAny_ListComp_free (fun _=>true) (fun v y=>∃ i t x u,v=.int i t∧y=.int x u∧0≤i∧ds[i.toNat]?=some x) hD.clos (by decide) rfl (by decide) rfl ?_ (fun _=>rfl)
 refine dec_range hΓ hB hD p hs hcell hown hlen fun s₁ H₁ r t u v e₁ hr=>?_
 refine wpAny_pyIter_range hr (small_down (by lia)) ?_
 rw [rangeSize_down]
 have e₂ : Ext H s H₁ { s₁ with heap := s₁.heap.push { cls := .type "range_iterator",data := .fields #[rawInt ((ws.length : Int) - 1),rawInt (ws.length : Int),rawInt (-1)] } } := e₁.trans (.push e₁.stays _)
 refine ⟨s₁.heap.objs.size,[s₁.heap.objs.size],[s₁.heap.objs.size],ws.length,_,_,rfl,(Walks.range hB.hand s₁.heap.objs.size ((ws.length:Int) - 1) (-1) ws.length).bound,by show ws.length≤sizeLine; exact lim_line (by unfold lim; lia),?_,?_,?_,?_⟩
 ·show IsRangeIter _ _ _ _ _
  have e1:(ws.length:Int) - 1+((0:Nat):Int) * -1=(ws.length:Int) - 1:=by lia
  have e2:(ws.length:Int) - ((0:Nat):Int)=(ws.length:Int):=by lia
  rw [e1,e2]
  exact Heap.get?_push_size _ rfl
 ·intro b hb
  rw [List.mem_singleton.1 hb]
  show s₁.heap.objs.size<(s₁.heap.push _).objs.size
  rw [Heap.size_push]; exact Nat.lt_succ_self _
 ·have hcell₂ : (s₁.heap.push ({ cls := .type "range_iterator",data := .fields #[rawInt ((ws.length : Int) - 1),rawInt (ws.length : Int),rawInt (-1)] } : Obj)).IsCell c (some (.ref D)) := (cell_ups hcell e₂.ups)
  have hcell₁:s₁.heap.IsCell c (some (.ref D)):=cell_ups hcell e₁.ups
  have hown₁:=hown.ups e₁.ups
  refine ⟨fun C i v s₃ m₃ E' _ _ _ _ _ _=>by rw [List.forIn_nil]; exact wpAny_pure ⟨rfl,s₃.heap,s₃.toks,rfl,fun _ _ e=>e⟩,fun C i v s₃ m₃ E' hC hPi _ hns hmi hk _=>?_⟩
  have keep:∀ b o,s₁.heap.get? b=some o→s₃.heap.get? b=some o:=fun b o e=>hk b o (fun hb=>by
   have:=Heap.lt_size e
   rw [List.mem_singleton.1 hb] at this
   exact Nat.lt_irrefl _ this) (Heap.get?_push_of_some _ e)
  obtain ⟨hi,t,rfl⟩:=hPi
  have hcell₃:s₃.heap.IsCell c (some (.ref D)):=hcell₁.keeps keep
  have hlist₃:s₃.heap.IsList D ws.toArray:=by
   obtain ⟨o,n,ho,hcl,_,hd⟩:=hown₁
   exact ⟨o,keep _ _ ho,hcl,n,hd⟩
  have hkd : B.env.kindOf (Str.ofString "digits") = some .cell := hD.kind rfl
  have hl : (compEnvC decComp [(Str.ofString "digits",c)] C B.env).kindOf (Str.ofString "digits") = some .cell := by
   show List.lookup (Str.ofString "digits") (relabel decComp B.env).names = some .cell
   unfold relabel decComp
   simp only [List.map_cons,List.map_nil,hB.kind,hkd]
   rfl
  have hli : (compEnvC decComp [(Str.ofString "digits",c)] C B.env).kindOf (Str.ofString "i") = some .local := by
   show List.lookup (Str.ofString "i") (relabel decComp B.env).names = some .local
   unfold relabel decComp
   simp only [List.map_cons,List.map_nil,hB.kind,hkd]
   rfl
  refine Subscript_ (wpAny_Name (wpAny_loadName_cell (env := compEnvC decComp [(Str.ofString "digits",c)] C B.env) rfl hl rfl hcell₃ ?_) rfl)
  refine wpAny_Name (wpAny_loadName_local (env := compEnvC decComp [(Str.ofString "digits",c)] C B.env) rfl hli hns hmi ?_) rfl
  have h0:0≤(ws.length:Int) - 1+(i:Int) * -1:=by lia
  have hix:((ws.length:Int) - 1+(i:Int) * -1).toNat<ws.length:=by lia
  have hdx:ds[((ws.length:Int) - 1+(i:Int) * -1).toNat]?=some (ds[((ws.length:Int) - 1+(i:Int) * -1).toNat]'(by lia)):=List.getElem?_eq_getElem _
  obtain ⟨y,hy,hry⟩:=hrl.get (i:=((ws.length:Int) - 1+(i:Int) * -1).toNat) (p:=.int (ds[((ws.length:Int) - 1+(i:Int) * -1).toNat]'(by lia))) (by rw [List.getElem?_map,hdx]; rfl)
  obtain ⟨u,rfl⟩:=rep_int hry
  refine tail_any (T := "list") hlist₃.typeIs slot_list_getitem.lookup (wpAny_getItem_list hlist₃ h0 (by lia) (show ws.toArray[((ws.length : Int) - 1 + (i : Int) * -1).toNat]? = some _ by rw [List.getElem?_toArray]; exact hy) ?_) (sub_plain rfl _ _)
  exact ⟨⟨_,_,_,_,rfl,rfl,h0,hdx⟩,s₃.heap,s₃.toks,rfl,fun _ _ e=>e⟩
 ·intro D' h' tk ys vs hD' hlst hpl hvl hP hpair hkeep
  refine hQ { s₁ with heap:=h',toks:=tk } H₁ D' ys.toList (e₁.trans (.keeps e₁.stays fun b o e=>?_)) (by simpa using hlst) ?_
  ·refine hkeep b o (fun hb=>?_) (Heap.get?_push_of_some _ e)
   have:=Heap.lt_size e
   rw [List.mem_singleton.1 hb] at this
   exact Nat.lt_irrefl _ this
  ·rw [List.filter_eq_self.2 (fun _ _=>rfl)] at hpair
   refine dec_pairs hpair (by rw [hvl,List.length_reverse,hwl]) fun j v hv=>?_
   obtain ⟨_,t,rfl⟩:=hP j v hv
   refine ⟨_,t,rfl,?_⟩
   have hj:j<ws.length:=by rw [← hvl]; exact (List.getElem?_eq_some_iff.1 hv).1
   rw [List.getElem?_reverse (by lia)]
   congr 1
   lia
theorem con_decimal (hΓ : Γ.Ok) (hfn : ∀ (f : Nat) (x : Str),Γ.fs[f]? = some x → FnAt Γ x) (hd : DecOk Γ) (d : Nat) (args : List PV) : Con prog w Γ (d + 1) (Str.ofString "_decimal") args (nf_decimal args) := by
 intro a A H l s ws Q E hm hpre hr hp
 unfold nf_decimal at hp
 split at hp
 ·rename_i n
  split at hp
  ·rename_i hn
   obtain ⟨a',o,params,scope,pm,code,doc,p,hm',ho,hdat,hcr,hbind,hco,hgen,hkd,hnm,hln⟩:=hd.there
   rw [hm] at hm'; obtain rfl:a=a':=by simpa using hm'
   have hbs:Γ.Base.StaysIn s.heap:=stays_trans hpre.base hpre.stays
   rw [RepL] at hr
   obtain ⟨v,r,rfl,hv,hr⟩:=hr
   rw [RepL] at hr
   subst hr
   refine wpAny_call (codeAny_call_cells (o := o) (fd := Calls.docDef (Str.ofString "_decimal") params (decBody p) scope pm code doc) (body := decBody p) (vals := [v]) (binds := [(Str.ofString "n",v)]) (by have := hpre.depth; lia) (hbs _ _ ho) hdat (hΓ.nolimit.keeps hbs) (hcr.keeps hbs) rfl (hbind v) rfl
    (fun x hx=>by rw [List.mem_singleton.1 hx]; left; show scope.names.lookup _=_; rw [hnm]; rfl) (fun s₁ X=>?_) hco hgen hkd)
   have e4 : (callEnvC (Calls.docDef (Str.ofString "_decimal") params (decBody p) scope pm code doc) s.heap.objs.size a).cells = [(Str.ofString "digits",s.heap.objs.size + 1)] := by
    show cellsFrom (s.heap.objs.size+1) scope.names []=_
    rw [hnm]; rfl
   have e1 : (callEnvC (Calls.docDef (Str.ofString "_decimal") params (decBody p) scope pm code doc) s.heap.objs.size a).scope = scope := rfl
   have e2 : (callEnvC (Calls.docDef (Str.ofString "_decimal") params (decBody p) scope pm code doc) s.heap.objs.size a).locals = s.heap.objs.size := rfl
   have e3 : (callEnvC (Calls.docDef (Str.ofString "_decimal") params (decBody p) scope pm code doc) s.heap.objs.size a).frame = some s.heap.objs.size := rfl
   have e5 : (callEnvC (Calls.docDef (Str.ofString "_decimal") params (decBody p) scope pm code doc) s.heap.objs.size a).globals = mainGlobals := rfl
   have e6 : (callEnvC (Calls.docDef (Str.ofString "_decimal") params (decBody p) scope pm code doc) s.heap.objs.size a).builtins = builtinsNs := rfl
   generalize callEnvC (Calls.docDef (Str.ofString "_decimal") params (decBody p) scope pm code doc) s.heap.objs.size a = env at *
   have hnone:s.heap.get? s.heap.objs.size=none:=none_of_size (Nat.le_refl _)
   have hHn:H.get? s.heap.objs.size=none:=none_of_stays hpre.stays hnone
   let B : Bl := { env := env,fenv := env,outer := l,A := A.deeper env,N₀ := s.heap.objs.size,vs := [Str.ofString "n"] }
   have hB:B.Ok d:=by
    refine ⟨by show env.scope.kind = _; rw [e1]; exact hkd,e5,e6,rfl,?_,hpre.hand,?_,?_,by show [Str.ofString "n"].Nodup; decide,?_⟩
    ·show A.frames.map (env::·)=some (env::l); rw [hpre.stack]; rfl
    ·show A.depth+1+d≤_; have:=hpre.depth; lia
    ·show A.units+3+8 * d+100≤_; have:=hpre.units; lia
    ·intro v hv L hL
     exact frames_low hpre.frames hv hL
   have hkn : env.kindOf (Str.ofString "n") = some .local := by show env.scope.names.lookup _ = _; rw [e1,hnm]; rfl
   have hD:DB Γ B (s.heap.objs.size+1):=by
    refine ⟨by show env.scope.names=_; rw [e1,hnm],rfl,by show env.cells.lookup _=_; rw [e4]; rfl,by show env.frame=some env.locals; rw [e3,e2],?_⟩
    show closureFor decComp env=_
    have hc : cellOf env (Str.ofString "digits") = pure (s.heap.objs.size + 1) := by unfold cellOf; rw [e4]; rfl
    unfold closureFor decComp
    simp only [List.forIn_cons,List.forIn_nil]
    rw [hc]; rfl
   have hkeep:s.heap.StaysIn s₁.heap:=X.toInCall.keep
   have hst:St Γ B H [.val (.int n)] s₁:=by
    have hff1:s₁.heap.FunFrames H l:=hpre.frames.of_keeps fun b o ho _=>⟨o,hkeep b o ho,rfl⟩
    have hns:=X.toInCall.ns
    rw [e2] at hns
    obtain ⟨ol,es,ep,hol,hdl,_⟩:=id hns
    refine ⟨hpre.base,stays_trans hpre.stays hkeep,⟨?_,⟨s.heap.objs.size,ol,e3,hHn,hol,fun vs q=>by rw [hdl] at q; cases q⟩,hff1⟩,_,fun _=>0,by show s₁.heap.Ns env.locals _; rw [e2]; exact hns,by show H.get? env.locals=none; rw [e2]; exact hHn,by show s.heap.objs.size≤env.locals; rw [e2]; exact Nat.le_refl _,?_,?_⟩
    ·show env.scope.kind≠.module; rw [e1,hkd]; decide
    ·intro i y hy
     cases i with
     | zero =>
      refine ⟨v,?_,hv⟩
      have : Str.ofString "n" = y := Option.some.inj hy
      subst this
      show bindL env.kindOf [(Str.ofString "n",v)] (fun _ => none) (Str.ofString "n") = some v
      unfold bindL
      rw [if_pos hkn]
      unfold bindL
      simp
     | succ i=>simp [B] at hy
    ·intro i j l1 l2 _ h1
     exact absurd h1 (no_own _ i l1)
   have hsame:s₁.os=s.os∧s₁.gens=s.gens:=by
    obtain ⟨h₁,tk,e⟩:=X.toInCall.same
    rw [e]; exact ⟨rfl,rfl⟩
   have toExt:∀ {H':Heap} {s':Shared},ExtS s.heap.objs.size H s₁ H' s'→Ext H s H' s':=fun {H' s'} ex =>
    ⟨ex.grow,fun b o hb nf hn=>ex.old b o (Heap.lt_size hb) (hkeep b o hb) nf hn,ex.stays,fun b o hb nf=>ex.ups b o (Heap.lt_size hb) (hkeep b o hb) nf,ex.same.1.trans hsame.1,ex.same.2.trans hsame.2⟩
   have hF:∀ f x,Γ.fs[f]?=some x→FnAt Γ x∧∀ args,Con prog w Γ d x args ((fun _ _=>Res.stuck:Nat→List PV→Res PV) f args):=fun f x hx=>⟨hfn f x hx,fun args a A H l s ws Q E _ _ _ hp=>hp.elim⟩
   show wpAny _ B.A (execs (decBody p) B.env) _ _ _
   unfold decBody
   refine wpAny_execs_cons ?_
   have htest := (chk_e hΓ hF (.cmp .eq (.var 0) (.lit (.int 0))) hB hD.gd (e := .Compare (.Name "n" (p 1)) [.Eq] [.Constant (.int 0) 0 (p 2)] (p 3)) rfl).2
   refine wpAny_If (htest H _ s₁ _ _ hst ?_)
   have ev:(evE (fun _ _=>Res.stuck) Γ.GV (.cmp .eq (.var 0) (.lit (.int 0))) [.val (.int n)]).bind truP=.ok (n == 0):=rfl
   show Post _ _ _ _ ((evE (fun _ _=>Res.stuck) Γ.GV (.cmp .eq (.var 0) (.lit (.int 0))) [.val (.int n)]).bind truP) _ _
   rw [ev]
   intro y s₂ H₂ e₂ hy
   have hs₂:=hst.ext e₂
   by_cases h0:n=0
   ·have hy':y=true:=by rw [← hy,h0]; rfl
    subst hy'
    show wpAny _ B.A (execs [.Return (some (.Constant (.bytes [48]) 0 (p 4))) (p 5)] B.env) _ _ _
    refine wpAny_execs_cons (wpAny_Return_some ?_)
    refine (se_lit (prog:=prog) (w:=w) (Γ:=Γ) (B:=B) (k:=0) (pos:=p 4) (c:=.bytes [48]) (v:=.bytes [48]) rfl (fun l e=>by cases e; decide)) H₂ _ s₂ _ _ hs₂ ?_
    intro v₃ s₃ H₃ e₃ r₃
    refine hp.ok (toExt ((e₂.trans e₃).toS)) ?_
    rw [h0]; exact r₃
   ·have hy':y=false:=by rw [← hy]; exact beq_eq_false_iff_ne.2 h0
    subst hy'
    show wpAny _ B.A (execs [] B.env) _ _ _
    refine wpAny_execs_nil ?_
    refine wpAny_execs_cons ?_
    have hcell₁ : s₁.heap.IsCell (s.heap.objs.size + 1) (bindC env.kindOf [(Str.ofString "n",v)] (fun _ => none) (Str.ofString "digits")) := X.cell _ _ (by rw [e4]; rfl)
    have hcell₂:=cell_ups hcell₁ e₂.ups
    have hcH:H.get? (s.heap.objs.size+1)=none:=none_of_stays hpre.stays (none_of_size (Nat.le_succ _))
    have hcH₂:H₂.get? (s.heap.objs.size+1)=none:=by
     obtain ⟨o,ho,hdt⟩:=hcell₁
     exact e₂.old _ o ho (fun vs q=>by rw [hdt] at q; cases q) hcH
    refine wpAny_Assign_Name (List_ ?_) (notComp_swaps rfl)
    refine Calls.spliced_nil ?_
    refine wpAny_newObj_type ?_ (by show ([]:List Value).toArray.size≤sizeLine; exact Nat.zero_le _)
    have hlt:s.heap.objs.size+1<s₂.heap.objs.size:=hcell₂.lt
    have hDn:s₂.heap.get? s₂.heap.objs.size=none:=none_of_size (Nat.le_refl _)
    have e₃ : Ext H₂ s₂ H₂ { s₂ with heap := s₂.heap.push { cls := .type "list",data := .seq ([] : List Value).toArray } } := .push hs₂.stays _
    have hcell₃:=cell_ups hcell₂ e₃.ups
    refine wpAny_storeName_cell (by show env.scope.kind=_; rw [e1]; exact hkd) (hD.kind rfl) hD.cells hcell₃ fun h' hc' hsb=>?_
    have hs₄ : St Γ B H₂ [.val (.int n)] { s₂ with heap := h' } := st_turn (s := { s₂ with heap := s₂.heap.push { cls := .type "list",data := .seq ([] : List Value).toArray } }) hB hD.fr (no_own _) (hs₂.ext (s' := { s₂ with heap := _ }) e₃) hcH₂ (by show env.locals < _; rw [e2]; exact Nat.lt_succ_self _) hsb
    have hown:OwnAt h' s₂.heap.objs.size []:=own_same ⟨_,_,Heap.get?_push_size _ rfl,rfl,rfl,rfl⟩ hsb (Nat.ne_of_gt hlt)
    show wpAny _ B.A (execs _ B.env) _ _ _
    refine wpAny_execs_cons ?_
    have hall:(digs n.toNat).length<1000:=by
     have:=digs_len 10 n.toNat (by have:=hn.2; lia)
     lia
    refine dec_while hΓ hfn hB hD p hln (H₀:=H) (h₀:=s₁) (n:=n.toNat) (ds:=[]) (all:=digs n.toNat) rfl hall ⟨H₂,s₂.heap.objs.size,[],(e₂.trans e₃).toS.trans ⟨stays_refl _,fun _ _ _ _ _ e=>e,hs₄.stays,fun b o hb e _=>⟨o.slots,(hsb.2 b ?_).trans e⟩,rfl,rfl⟩,?_,hc',hcH₂,hown,none_of_stays hs₂.stays hDn,?_,?_,Nat.ne_of_lt hlt,by show RepL _ [] []; rw [RepL]⟩ fun s₅ x₅=>?_
    ·exact fun q=>by subst q; exact absurd hb (Nat.not_lt.mpr (Nat.le_succ _))
    ·rw [Int.toNat_of_nonneg hn.1]; exact hs₄
    ·show env.locals<_; rw [e2]; exact Nat.lt_trans (Nat.lt_succ_self _) hlt
    ·show env.locals<_; rw [e2]; exact Nat.lt_succ_self _
    obtain ⟨H₅,D,ws,ex,hs₅,hcell₅,hcH₅,hown₅,hDH₅,hLD,hLc,hcD,hrl⟩:=x₅
    have hwl:ws.length=(digs n.toNat).length:=by rw [hrl.length,List.length_map]
    show wpAny _ B.A (execs _ B.env) _ _ _
    refine wpAny_execs_cons (wpAny_Return_some ?_)
    have hkb : B.env.kindOf (Str.ofString "bytes") = some .globalImplicit := hD.kind rfl
    refine call1_t hΓ hB (id := "bytes") (by decide) (by kernel_rfl) hkb rfl rfl hs₅ ?_
    refine dec_list hΓ hB hD p hs₅ hcell₅ hown₅ hrl (by lia) fun s₆ H₆ b ys e₆ hl₆ hia=>?_
    have hrg:∀ x∈(digs n.toNat).reverse,0≤x∧x<256:=fun x hx=>digs_range _ x (List.mem_reverse.1 hx)
    have hyl:ys.length=(digs n.toNat).length:=by rw [hia.length,List.length_reverse]
    refine call_bytes_ints hl₆ hia hrg (by rw [hyl]; exact lim_line (by unfold lim; lia)) hB.hand fun h' t k hk=>?_
    refine hp.ok (s':={ s₆ with heap:=h',toks:=k }) (toExt ((ex.trans e₆.toS).trans (Ext.toS (.keeps e₆.stays hk)))) ?_
    rw [decD_digs (by lia)]
    exact repBytes _ _ (byteArr_int hrg) (by rw [List.length_reverse]; unfold lim; lia)
  ·exact hp.elim
 ·exact hp.elim
end
end Mine
namespace Mine
open PySem PySem.W PyProof.Rows
theorem zip_look:∀ (names:List Str) (ws:List Value),ws.length=names.length→∀ n∈names,((names.zip ws).lookup n).isSome=true
 | [],_,_,n,h=>by cases h
 | m::r,[],h,n,_=>by simp at h
 | m::r,w::t,h,n,hn=>by
  rw [List.zip_cons_cons,List.lookup_cons]
  cases hb:n == m with
  | true=>rfl
  | false =>
   rcases List.mem_cons.1 hn with e | e
   ·rw [e] at hb; simp at hb
   ·exact zip_look r t (by simpa using h) n e
theorem fm_congr {α β:Type} {f g:α→Option β}:∀ {l:List α},(∀ x∈l,f x=g x)→l.filterMap f=l.filterMap g
 | [],_=>rfl
 | a::r,h=>by
  rw [List.filterMap_cons,List.filterMap_cons,h a List.mem_cons_self,fm_congr fun x hx=>h x (List.mem_cons_of_mem _ hx)]
theorem zip_binds:∀ (names:List Str) (ws:List Value),ws.length=names.length→names.Nodup→(names.filterMap fun n=>((names.zip ws).lookup n).map fun v=>(n,v))=names.zip ws
 | [],_,_,_=>rfl
 | m::r,[],h,_=>by simp at h
 | m::r,w::t,h,hn=>by
  rw [List.nodup_cons] at hn
  have ih:=zip_binds r t (by simpa using h) hn.2
  rw [List.zip_cons_cons,List.filterMap_cons,List.lookup_cons]
  have hm:(m == m)=true:=by simp
  rw [hm]
  show (m,w)::_=_
  congr 1
  refine Eq.trans (fm_congr fun n hx=>?_) ih
  rw [List.lookup_cons]
  have:(n == m)=false:=by
   rw [beq_eq_false_iff_ne]; intro e; rw [e] at hx; exact hn.1 hx
  rw [this]
theorem sem_pb {α β:Type} (a:α) (f:α→Sem β):(pure a:Sem α) >>= f=f a:=rfl
theorem seq_none:seqItems? Value.none=pure none:=rfl
theorem bind_plain {x:Str} {params:Arguments} {body:List Stmt} {scope:Scope} {pm code doc:Value} {names:List Str} (h1:params.posonlyargs=[]) (h2:params.kwonlyargs=[]) (h3:params.vararg=none) (h4:params.kwarg=none)
  (h5:params.args.map (·.arg)=names) (hn:names.Nodup) {ws:List Value} (hl:ws.length=names.length):bindArgs (Calls.docDef x params body scope pm code doc) ⟨ws,[]⟩=pure (names.zip ws):=by
 obtain ⟨po,ar,va,ko,kd,kw,df⟩:=params
 simp only at h1 h2 h3 h4 h5
 subst h1 h2 h3 h4
 have hmiss:(names.filter fun n=>((names.zip ws).lookup n).isNone)=[]:=by
  rw [List.filter_eq_nil_iff]
  intro n hx
  have:=zip_look names ws hl n hx
  cases hq:(names.zip ws).lookup n with
  | none=>rw [hq] at this; cases this
  | some v=>simp
 unfold bindArgs
 simp only [Calls.docDef,h5,List.map_nil,List.forIn_nil]
 have hgt:decide (ws.length > names.length)=false:=decide_eq_false (by lia)
 simp only [sem_pb,seq_none,Option.getD_none,List.length_nil,Nat.zero_sub,List.drop_nil,Nat.sub_zero,List.nil_append,List.append_nil,hgt,Bool.false_and,Bool.false_eq_true,if_false,List.take_length,hmiss,List.isEmpty_nil,Bool.not_true,List.zip_nil_right,List.forIn_nil]
 rw [zip_binds names ws hl hn]
end Mine
namespace Mine
open PySem PySem.W PyProof.Rows
noncomputable def recOk (fs gs:List Str) (d:DefRec) (vars:List Str) (k:Nat) (cs:List CS):Bool :=
 chkSs ⟨d.scope.names,vars,fs,gs⟩ d.body cs && !d.scope.isCoroutine && !d.scope.isGenerator && (d.scope.kind == .function) && (d.scope.names.all fun x=>x.2 != .cell) && ((vars.take k).all fun y=>d.scope.names.lookup y == some .local) &&
 d.params.posonlyargs.isEmpty && d.params.kwonlyargs.isEmpty && d.params.vararg.isNone && d.params.kwarg.isNone && (d.params.args.map (·.arg) == vars.take k) && decide vars.Nodup && decide (k≤vars.length)
noncomputable def defsOk (p:Program) (fs gs:List Str) (T:Nat→Option CF):Bool:=(List.range fs.length).all fun i=>match fs[i]?,T i with
 | some f,some (.code vs k cs)=>(recsOf p).any fun d=>d.name == f && recOk fs gs d vs k cs
 | some f,_=>(recsOf p).any fun d=>d.name == f
 | none,_=>false
section
variable {p:Program} {loose:List Str} {mean:ExcName→Option Value} {mg mb:Str→Option Value} {h:Heap} {fs gs:List Str} {GV:Nat→Res PV}
noncomputable def ctx (h:Heap) (mg mb:Str→Option Value) (fs gs:List Str) (GV:Nat→Res PV):Ct:=⟨h,mg,mb,fs,gs,GV⟩
theorem fn_of (T:Top p loose mean mg mb h) {d:DefRec} (hd:d∈recsOf p):FnAt (ctx h mg mb fs gs GV) d.name:=by
 obtain ⟨a,o,pm,code,doc,h1,h2,h3,h4⟩:=T.fn d hd
 exact ⟨a,o,_,h1,h2,h3⟩
theorem def_of (T:Top p loose mean mg mb h) {d:DefRec} (hd:d∈recsOf p) {vars:List Str} {k:Nat} {cs:List CS} (hk:recOk fs gs d vars k cs=true):DefOk (ctx h mg mb fs gs GV) d.name vars k cs:=by
 unfold recOk at hk
 simp only [Bool.and_eq_true,Bool.not_eq_true',beq_iff_eq,List.all_eq_true,bne_iff_ne,decide_eq_true_eq,List.isEmpty_iff,Option.isNone_iff_eq_none] at hk
 obtain ⟨⟨⟨⟨⟨⟨⟨⟨⟨⟨⟨⟨c1,c2⟩,c3⟩,c4⟩,c5⟩,c6⟩,c7⟩,c8⟩,c9⟩,c10⟩,c11⟩,c12⟩,c13⟩:=hk
 obtain ⟨a,o,pm,code,doc,h1,h2,h3,h4⟩:=T.fn d hd
 refine ⟨⟨a,o,d.params,d.body,d.scope,pm,code,doc,h1,h2,h3,h4,fun ws hw=>?_,c1,c2,c3,c4,fun x hx=>c5 x hx,fun y hy=>c6 y hy⟩,c12,c13⟩
 refine bind_plain c7 c8 c9 c10 c11 (c12.sublist (List.take_sublist _ _)) ?_
 rw [hw,List.length_take]; lia
theorem defs_of (T:Top p loose mean mg mb h) {Tb:Nat→Option CF} (hk:defsOk p fs gs Tb=true) :
  (∀ (f:Nat) (x:Str),fs[f]?=some x→FnAt (ctx h mg mb fs gs GV) x)∧(∀ (f:Nat) (x:Str),fs[f]?=some x→∀ vs k cs,Tb f=some (.code vs k cs)→DefOk (ctx h mg mb fs gs GV) x vs k cs):=by
 have key:∀ (f:Nat) (x:Str),fs[f]?=some x→(∃ d∈recsOf p,d.name=x)∧∀ vs k cs,Tb f=some (.code vs k cs)→∃ d∈recsOf p,d.name=x∧recOk fs gs d vs k cs=true:=by
  intro f x hx
  have hlt:f<fs.length:=(List.getElem?_eq_some_iff.1 hx).1
  have:=List.all_eq_true.1 hk f (List.mem_range.2 hlt)
  rw [hx] at this
  cases ht:Tb f with
  | none =>
   rw [ht] at this
   obtain ⟨d,hd,he⟩:=List.any_eq_true.1 this
   exact ⟨⟨d,hd,by simpa using he⟩,fun vs k cs h=>by cases h⟩
  | some c =>
   rw [ht] at this
   cases c with
   | native g =>
    obtain ⟨d,hd,he⟩:=List.any_eq_true.1 this
    exact ⟨⟨d,hd,by simpa using he⟩,fun vs k cs h=>by cases h⟩
   | code vs k cs =>
    obtain ⟨d,hd,he⟩:=List.any_eq_true.1 this
    rw [Bool.and_eq_true] at he
    exact ⟨⟨d,hd,by simpa using he.1⟩,fun vs' k' cs' h=>by cases h; exact ⟨d,hd,by simpa using he.1,he.2⟩⟩
 refine ⟨fun f x hx=>?_,fun f x hx vs k cs ht=>?_⟩
 ·obtain ⟨d,hd,rfl⟩:=(key f x hx).1
  exact fn_of T hd
 ·obtain ⟨d,hd,rfl,hr⟩:=(key f x hx).2 vs k cs ht
  exact def_of T hd hr
noncomputable def bytesIs (v:Value) (l:List Int):Bool:=match v with
 | .bytes b _=>bInt b == l
 | _=>false
noncomputable def fragEs (K:Frag):Option (Array DictEntry):=match K.lookup mainGlobals with
 | some o=>(match o.data with | .dict es _=>some es | _=>none)
 | none=>none
noncomputable def statOk (K:Frag):Bool:=match K.lookup cStatics with
 | some o=>(match o.data with | .dict es _=>es.toList.isEmpty | _=>false)
 | none=>false
noncomputable def tupIs (K:Frag) (a:Addr) (ls:List (List Int)):Bool:=match K.lookup a with
 | some o=>(match o.cls,o.data with
  | .type t,.seq items _ => t == "tuple" && items.toList.length == ls.length && (items.toList.zip ls).all fun x => bytesIs x.1 x.2
  | _,_=>false)
 | none=>false
noncomputable def stats:List (List Int):=[[79,75],[78,79],[66,65,68],[66,89,69]]
noncomputable def fragOk (K:Frag):Bool:=statOk K && match fragEs K with
 | none=>false
 | some es => (words.all fun x => (nsFind es x).isNone) && (match nsFind es (Str.ofString "_LIMIT") with | some (.int n _) => n == 4294967296 | _ => false) &&
  (match nsFind es (Str.ofString "_STATUS") with | some (.ref a) => tupIs K a stats | _ => false)
theorem repl_bytes {H:Heap}:∀ {ws:List Value} {ls:List (List Int)},ws.length=ls.length→((ws.zip ls).all fun x=>bytesIs x.1 x.2)=true→(∀ l∈ls,l.length≤1048576)→RepL H (ls.map PV.bytes) ws
 | [],[],_,_,_=>by show RepL H [] []; rw [RepL]
 | [],l::r,h,_,_=>by simp at h
 | w::t,[],h,_,_=>by simp at h
 | w::t,l::r,h,hb,hl=>by
  rw [List.zip_cons_cons,List.all_cons,Bool.and_eq_true] at hb
  show RepL H (.bytes l::r.map PV.bytes) _
  rw [RepL]
  refine ⟨w,t,rfl,?_,repl_bytes (by simpa using h) hb.2 fun x hx=>hl x (List.mem_cons_of_mem _ hx)⟩
  have h1:=hb.1
  unfold bytesIs at h1
  split at h1
  ·rename_i b tk e
   rw [Rep]
   exact ⟨b,tk,e,by simpa using h1,hl l List.mem_cons_self⟩
  ·cases h1
theorem ctx_ok (T:Top p loose mean mg mb h) {K:Frag} (KX:K.In h) (hk:fragOk K=true) (gv:∀ i,GV i=match i with | 0=>.ok (.int 4294967296) | 1=>.ok (.tuple (stats.map PV.bytes)) | _=>.stuck) :
  (ctx h mg mb fs [Str.ofString "_LIMIT",Str.ofString "_STATUS"] GV).Ok := by
 unfold fragOk at hk
 rw [Bool.and_eq_true] at hk
 obtain ⟨hs,hk⟩:=hk
 cases he:fragEs K with
 | none=>rw [he] at hk; cases hk
 | some es =>
  rw [he] at hk
  simp only [Bool.and_eq_true,List.all_eq_true,Option.isNone_iff_eq_none] at hk
  obtain ⟨⟨k1,k2⟩,k3⟩:=hk
  have hmg:∀ x,nsFind es x=mg x:=by
   unfold fragEs at he
   cases ho:K.lookup mainGlobals with
   | none=>rw [ho] at he; cases he
   | some o =>
    rw [ho] at he
    have hg:=KX _ _ ho
    obtain ⟨o',es',ep',ho',hd',_,hf⟩:=T.g
    rw [hg] at ho'; cases ho'
    simp only [hd'] at he
    cases he
    exact hf
  refine ⟨T.g,T.b,T.nolimit,?_,fun x hx=>⟨?_,?_⟩,fun i x q hi hq=>?_,fun i=>?_⟩
  ·unfold statOk at hs
   cases ho:K.lookup cStatics with
   | none=>rw [ho] at hs; cases hs
   | some o =>
    rw [ho] at hs
    simp only at hs
    split at hs
    ·rename_i es' ep' hd
     refine ⟨fun _=>none,⟨o,es',ep',KX _ _ ho,hd,?_,?_⟩,rfl⟩
     ·have:es'=#[]:=by simpa using hs
      subst this; intro e hx; simp at hx
     ·have:es'=#[]:=by simpa using hs
      subst this; intro name; rfl
    ·cases hs
  ·show mg x=none
   rw [← hmg]; exact k1 x hx
  ·refine T.builtins x fun e=>?_
   subst e
   exact absurd hx (by decide)
  ·rw [show (ctx h mg mb fs [Str.ofString "_LIMIT",Str.ofString "_STATUS"] GV).GV i = GV i from rfl,gv] at hq
   match i,hi,hq with
   | 0,hi,hq =>
    cases hq
    have : Str.ofString "_LIMIT" = x := by simpa [ctx] using hi
    subst this
    show ∃ v,mg _=some v∧_
    rw [← hmg]
    split at k2
    ·rename_i n t e
     refine ⟨_,e,?_⟩
     rw [Rep]
     have:n=4294967296:=by simpa using k2
     rw [this]; exact ⟨t,rfl⟩
    ·cases k2
   | 1,hi,hq =>
    cases hq
    have : Str.ofString "_STATUS" = x := by simpa [ctx] using hi
    subst this
    show ∃ v,mg _=some v∧_
    rw [← hmg]
    split at k3
    ·rename_i a e
     refine ⟨_,e,?_⟩
     unfold tupIs at k3
     cases ho:K.lookup a with
     | none=>rw [ho] at k3; cases k3
     | some o =>
      rw [ho] at k3
      simp only at k3
      split at k3
      ·rename_i t items n hc hd
       simp only [Bool.and_eq_true,beq_iff_eq] at k3
       rw [Rep]
       refine ⟨a,items.toList,rfl,⟨o,KX _ _ ho,?_,n,?_⟩,by decide,repl_bytes k3.1.2 k3.2 (by decide)⟩
       ·rw [hc,k3.1.1]
       ·rw [hd]
      ·cases k3
    ·cases k3
   | j+2,hi,hq=>simp [ctx] at hi
  ·show GV i≠.exc
   rw [gv]
   match i with
   | 0=>intro h; cases h
   | 1=>intro h; cases h
   | j+2=>intro h; cases h
end
end Mine
namespace Mine
open PySem PySem.W PyProof.Rows
noncomputable def decPosL:List Pos:=[⟨0,0,0,0⟩,⟨37,7,37,8⟩,⟨37,12,37,13⟩,⟨37,7,37,13⟩,⟨38,15,38,19⟩,⟨38,8,38,19⟩,⟨37,4,38,19⟩,⟨39,4,39,10⟩,⟨39,13,39,15⟩,⟨39,4,39,15⟩,⟨40,10,40,11⟩,⟨40,14,40,15⟩,⟨40,10,40,15⟩,⟨41,8,41,14⟩,⟨41,8,41,21⟩,⟨41,22,41,24⟩,⟨41,27,41,28⟩,⟨41,31,41,33⟩,⟨41,27,41,33⟩,⟨41,22,41,33⟩,⟨41,8,41,34⟩,⟨41,8,41,34⟩,⟨42,8,42,9⟩,⟨42,12,42,13⟩,⟨42,17,42,19⟩,⟨42,12,42,19⟩,⟨42,8,42,19⟩,⟨40,4,42,19⟩,⟨43,11,43,16⟩,⟨43,18,43,24⟩,⟨43,25,43,26⟩,⟨43,18,43,27⟩,⟨43,32,43,33⟩,⟨43,37,43,42⟩,⟨43,43,43,46⟩,⟨43,47,43,53⟩,⟨43,43,43,54⟩,⟨43,57,43,58⟩,⟨43,43,43,58⟩,⟨43,61,43,62⟩,⟨43,60,43,62⟩,⟨43,65,43,66⟩,⟨43,64,43,66⟩,⟨43,37,43,67⟩,⟨43,17,43,68⟩,⟨43,11,43,69⟩,⟨43,4,43,69⟩]
noncomputable def decPos (i:Nat):Pos:=(decPosL[i]?).getD ⟨0,0,0,0⟩
noncomputable def decParams : Arguments := { posonlyargs := [],args := [{ arg := "n",annotation := none,pos := ⟨36,13,36,14⟩ }],vararg := none,kwonlyargs := [],kw_defaults := [],kwarg := none,defaults := [] }
noncomputable def decScope : Scope := { kind := .function,names := decNames,isGenerator := false,isCoroutine := false,more := [(Str.ofString "fast",.str "n"),(Str.ofString "fast",.str "digits"),(Str.ofString "fast",.str "i")] }
noncomputable def decIs (p : Program) : Prop := ((recsOf p).find? fun d => d.name == Str.ofString "_decimal").map (fun d => (d.params,d.body,d.scope)) = some (decParams,decBody decPos,decScope)
section
variable {p:Program} {loose:List Str} {mean:ExcName→Option Value} {mg mb:Str→Option Value} {fs gs:List Str} {GV:Nat→Res PV}
theorem dec_of {h:Heap} (T:Top p loose mean mg mb h) (hd:decIs p):DecOk (ctx h mg mb fs gs GV):=by
 unfold decIs at hd
 cases hf : (recsOf p).find? fun d => d.name == Str.ofString "_decimal" with
 | none=>rw [hf] at hd; cases hd
 | some d =>
  rw [hf] at hd
  obtain ⟨nm,pa,bo,sc,ps⟩:=d
  have hn : nm = Str.ofString "_decimal" := by simpa using List.find?_some hf
  simp only [Option.map_some,Option.some.injEq,Prod.mk.injEq] at hd
  obtain ⟨rfl,rfl,rfl⟩:=hd
  subst hn
  obtain ⟨a,o,pm,code,doc,h1,h2,h3,h4⟩:=T.fn _ (List.mem_of_find?_eq_some hf)
  refine ⟨a,o,decParams,decScope,pm,code,doc,decPos,h1,h2,h3,h4,fun v=>?_,rfl,rfl,rfl,rfl,rfl⟩
  exact bind_plain (names := [Str.ofString "n"]) rfl rfl rfl rfl rfl (by decide) rfl
theorem repl_ints {H:Heap}:∀ {vs:List Value} {xs:List Int},IntsAre vs xs→RepL H (xs.map PV.int) vs
 | _,_,.nil=>by show RepL H [] []; rw [RepL]
 | _,_,.cons n t r=>by
  show RepL H (.int n::_) _
  rw [RepL]
  exact ⟨_,_,rfl,by rw [Rep]; exact ⟨t,rfl⟩,repl_ints r⟩
end
namespace L2
noncomputable def isNat:Option CF→Bool
 | some (.native _)=>true
 | some (.code ..)=>false
 | none=>false
theorem T_nat:((List.range 37).all fun f=>f == 7 || !isNat (T f))=true:=rfl
theorem T_native (f:Nat) (g:List PV→Res PV) (h:T f=some (.native g)):f=7∧g=nf_decimal:=by
 have hf:f<37:=(List.getElem?_eq_some_iff.1 h).1
 have h7:=List.all_eq_true.1 T_nat f (List.mem_range.2 hf)
 rw [h] at h7
 have e:=eq_of_beq ((Bool.or_false _).symm.trans h7)
 subst e
 cases h
 exact ⟨rfl,rfl⟩
theorem G_eq:∀ i,G i=match i with | 0=>.ok (.int 4294967296) | 1=>.ok (.tuple (stats.map PV.bytes)) | _=>.stuck:=by
 intro i
 match i with
 | 0=>rfl
 | 1=>rfl
 | j+2=>rfl
theorem run_law {p:Program} {loose:List Str} {mean:ExcName→Option Value} {mg mb:Str→Option Value} {prog:Program} {w:World} {s:Shared} (Tp:Top p loose mean mg mb s.heap) {K:Frag} (KX:K.In s.heap) (hk:fragOk K=true) (hd:defsOk p fnames gnames T=true) (hdec:decIs p)
  {fa : Addr} (hmg : mg (Str.ofString "law") = some (.ref fa)) {a : Addr} {vs : List Value} {xs : List Int} (hl : s.heap.IsList a vs.toArray) (hi : IntsAre vs xs) (hlen : xs.length ≤ 1000)
  {Q E:Value→Shared→Prop} (hQ:∀ s',s.heap.StaysIn s'.heap→s'.os=s.os→s'.gens=s.gens→Q (.bool true) s'):wpAny (model prog w) callerA (call (.ref fa) [.ref a]) Q E s:=by
 have hΓ:(ctx s.heap mg mb fnames gnames G).Ok:=ctx_ok Tp KX hk G_eq
 have hdf:=defs_of (GV:=G) Tp hd
 have hT:∀ (f:Nat) (x:Str),fnames[f]?=some x→match T f with
   | some (.code vars k cs)=>DefOk (ctx s.heap mg mb fnames gnames G) x vars k cs
   | some (.native g)=>∀ d args,Con prog w (ctx s.heap mg mb fnames gnames G) (d+1) x args (g args)
   | none=>True:=by
  intro f x hx
  cases ht:T f with
  | none=>trivial
  | some c =>
   cases c with
   | code vars k cs=>exact hdf.2 f x hx vars k cs ht
   | native g =>
    obtain ⟨rfl,rfl⟩:=T_native f g ht
    have : Str.ofString "_decimal" = x := Option.some.inj hx
    subst this
    intro d args
    exact con_decimal hΓ hdf.1 (dec_of Tp hdec) d args
 refine con_all (prog := prog) (w := w) hΓ T 3000 hdf.1 hT 20 36 (Str.ofString "law") rfl [.list (xs.map PV.int)] fa callerA s.heap [] s [.ref a] Q E hmg
  ⟨stays_refl _,stays_refl _,trivial,rfl,rfl,by decide,by decide⟩ (RepL.one ?_) ?_
 ·rw [Rep]
  exact ⟨a,vs,rfl,hl,by rw [List.length_map]; lia,repl_ints hi⟩
 ·show Post Rep [] s.heap s (den T G 3000 20 36 [.list (xs.map PV.int)]) Q E
  rw [law_all xs (by unfold lim; lia)]
  intro v s' H' ex r
  rw [Rep] at r
  subst r
  exact hQ s' (stays_trans ex.grow ex.stays) ex.same.1 ex.same.2
end L2
end Mine
namespace Mine
open PySem PySem.W PyProof.Rows
noncomputable def keepS (st:Stmt):Bool:=match st with
 | .Assign [.Name x _] _ _ => x != Str.ofString "__name__"
 | _=>true
noncomputable def viewOf (p:Program):Program:={ p with main:={ p.main with body:=p.main.body.filter keepS } }
noncomputable def heapFrag (as:List Addr) (h:Heap):Frag:=as.filterMap fun a=>(h.get? a).map fun o=>(a,o)
theorem heapFrag_in (as:List Addr) (h:Heap):(heapFrag as h).In h:=by
 intro a o e
 have hm:(a,o)∈heapFrag as h:=by
  have:=List.lookup_eq_some_iff.1 e
  obtain ⟨l1,l2,h1,_⟩:=this
  rw [h1]; simp
 obtain ⟨b,_,hb⟩:=List.mem_filterMap.1 hm
 cases hg:h.get? b with
 | none=>rw [hg] at hb; cases hb
 | some o'=>rw [hg] at hb; cases hb; exact hg
noncomputable def hookOf (as:List Addr):Hook:=⟨Bool,fun s=>fragOk (heapFrag as s.heap),fun _=>true,fun _ h=>∃ K:Frag,K.In h∧fragOk K=true,fun _ s e=>⟨_,heapFrag_in as s.heap,e⟩,fun _ _ _ ⟨K,a,b⟩ k=>⟨K,a.keeps k,b⟩⟩
noncomputable def xtOf (p:Program) (s:Shared):Bool:=xlAt (viewOf p) [] s && PySem.W.recOk [] s
end Mine
open PySem PySem.W PyProof.Rows
set_option maxHeartbeats 8000000
namespace Mine.L2
theorem left : LeftO PySem.Challenge.pw_sx_r152_2 (viewOf PySem.Challenge.pw_sx_r152_2) [] (xtOf PySem.Challenge.pw_sx_r152_2) (hookOf [2, 3, 163]).obs (hookOf [2, 3, 163]).val 2688 := by
  intro w
  kernel_rfl
theorem said : PySem.Challenge.rw_sx_r152_2.wellSaid = true := by kernel_rfl
theorem defs : defsOk (viewOf PySem.Challenge.pw_sx_r152_2) fnames gnames T = true := by decide +kernel
theorem dec : decIs (viewOf PySem.Challenge.pw_sx_r152_2) := by unfold decIs; kernel_rfl
theorem looks : (chainsOk (viewOf PySem.Challenge.pw_sx_r152_2) && opensWell PySem.Challenge.rw_sx_r152_2.row.prog && (frees PySem.Challenge.rw_sx_r152_2.row.toRowW && PySem.Challenge.rw_sx_r152_2.row.within.isEmpty)) = true := by kernel_rfl
end Mine.L2
theorem PySem.Challenge.cw_sx_r152_2_holds : PySem.Challenge.rw_sx_r152_2.Holds := by
  refine holds_law Mine.L2.said fun said => ?_
  refine holds_open (q := Mine.viewOf PySem.Challenge.pw_sx_r152_2) (loose := []) (Xt := Mine.xtOf PySem.Challenge.pw_sx_r152_2) (XP := XL (Mine.viewOf PySem.Challenge.pw_sx_r152_2) []) (Yf := (Mine.hookOf [2, 3, 163]).obs) (Ya := (Mine.hookOf [2, 3, 163]).val) (YP := (Mine.hookOf [2, 3, 163]).says) (N := 2688) Mine.L2.left (Hook.of _) (Hook.keeps _) (fun s e => xl_of s (Bool.and_eq_true_iff.mp e).1) XL.keeps (by rfl) (by rfl) (by rfl) (fun s e => recFacts_of (Bool.and_eq_true_iff.mp e).2) rfl said Mine.L2.looks ⟨rfl, rfl, rfl, rfl, rfl, by decide +kernel⟩ ?hw ?hc
  case hw => w_witness2
  intro w s₀ s₁ mg mb G Y fa o pm cd doc dV kV ho hd hcd hD hmg hg args vals as hpre hlay hrd hwl hlo
  obtain ⟨K, KX, hk⟩ := Y
  have hmg' : mg (Str.ofString "law") = some (.ref fa) := hmg
  clear hd hcd hD hmg
  refine Ground.open G ?_
  intro T B D TE TW
  wrow_args hpre hlay hrd hwl hlo
  rename_i xs _ _ _ _ _ _ _ a vs _ hL _ _ _ hI _ hlen _
  refine Mine.L2.run_law T KX hk Mine.L2.defs Mine.L2.dec hmg' hL hI (by omega) (fun s' hst hos hgens => ?_)
  refine GoodW.toG ⟨Or.inl ⟨_, .bool true, [], rfl, fun cls => rfl, ?_, by kernel_rfl, fun _ => ⟨List.nodup_nil, fun a h => by cases h⟩⟩, hst, hos, hgens.trans hg⟩
  exact .bool ..
